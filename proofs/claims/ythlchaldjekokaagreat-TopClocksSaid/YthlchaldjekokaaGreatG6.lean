/- Part 6 of the proof. -/
import Derived.Test.YthlchaldjekokaaGreatG5
import Derived.Test.YthlchaldjekokaaGreatProg
import Derived.KernelRfl
set_option linter.all false
namespace Go.Proofs.YthlchaldjekokaaGreat
open Go.PK
attribute [local irreducible] be8' be4 beN
def sel3(a b c:Int)(i:Nat):Int:=if i=0 then a else if i=1 then b else c
theorem sel3_take(a b c:Int){i:Nat}(h:i<3):[a,b,c].take (i+1)=[a,b,c].take i++[sel3 a b c i]:=by
 match i,h with
 | 0,_=>rfl
 | 1,_=>rfl
 | 2,_=>rfl
theorem sel3_get(a b c:Int){cs:List Value}{o:Nat}(h0:cs[o]?=some (.int .i32 a))(h1:cs[o+1]?=some (.int .i32 b))(h2:cs[o+2]?=some (.int .i32 c)){i:Nat}(h:i<3):cs[o+i*1]?=some (.int .i32 (sel3 a b c i)):=by
 match i,h with
 | 0,_=>exact h0
 | 1,_=>exact h1
 | 2,_=>exact h2
set_option maxHeartbeats 4000000 in
theorem rbody_1(r:Rdg)(hk:r.kind=1)(hr:r.Ok):Spc Tryz.prog 148 #[.agg r.cells.toArray] [] [] (OwnB (aX r)):=by
 refine Spc.enter Tryz.func148 (h:=?_);refine fun w0 hw0=>?_;refine go 7 ?_;intro b1;refine bv rfl ?_;simp only[List.cons_append,List.nil_append];refine go 1 ?_;refine ao [] (ho:=rfl) (h:=?_);intro b2;refine go 16 ?_;refine aI rfl ((by rw[hk];rfl)) ?_;refine go 7 ?_;refine CW.loop (γ:=Nat×Option Nat×Nat) (fun g=>g.1≤3∧(0+g.1=0∨g.2.1.isSome=true)) (fun g=>[(1,.pointer (some ⟨b1,0,none⟩)),(3,aE g.2.1 (0+4*g.1) g.2.2),(4,.int .i64 (g.1:Int))]) (fun _=>[cel b1 r.cells 54]) (fun g=>[own g.2.1 g.2.2 5 1 (0+4*g.1) (bytes ([]++([r.g0,r.g1,r.g2].take g.1).flatMap be4))]) (fun g=>3-g.1) (0,some b2,0) ⟨by simp,by simp[true]⟩ (.cons rfl (.cons rfl (.cons rfl .nil))) (fun w h=>by simpa using h) ?_;rintro⟨i,ob',c'⟩ ⟨hi,ho⟩;dsimp only at hi ho ⊢;refine go 7 ?_;refine CW.cond rfl (fun hlt=>?_) (fun hlt=>?_)
 ·refine go 8 ?_;have hlt:i<3:=by simp at hlt;omega
  refine al (j:=i) (ho:=rfl) (hlt:=hlt) (h:=?_);refine RL.load (ho:=rfl) (hr:=aD mQ (sel3_get r.g0 r.g1 r.g2 (o:=0+1) rfl rfl rfl hlt)) (h:=?_);refine ax (rput4 (sel3 r.g0 r.g1 r.g2 i)) (hb:=.inl rfl) (h:=?_);rintro _ _ _ ⟨ob1,cap1,rfl,rfl,rfl,ho1⟩;refine go 7 ?_;intro ob2 cap2 ho2;refine ap rfl (ad (by omega) (by omega)) ?_;refine go 2 ?_;refine NQ.round (g:=(i,ob',c')) (i+1,ob2,cap2) ⟨hlt,ho2.elim (fun h=>by omega) .inr⟩ (by show 3-(i+1)<3-i;omega) (.cons rfl (.cons (by rw[show 0+4*(i+1)=0+4*i+4 by omega];rfl) (.cons rfl .nil))) (fun w h=>?_);rw[bE (n':=0+4*(i+1)) (xs':=bytes ([]++([r.g0,r.g1,r.g2].take (i+1)).flatMap be4)) (by omega) (by rw[sel3_take _ _ _ hlt,List.flatMap_append];simp)] at h;exact h.rea (fun _ h=>h) rE
 ·refine go 12 ?_;have hi3:i=3:=by simp at hlt;omega
  subst hi3;refine CW.loop (γ:=Nat×Option Nat×Nat) (fun g=>g.1≤3∧(12+g.1=0∨g.2.1.isSome=true)) (fun g=>[(1,.pointer (some ⟨b1,0,none⟩)),(3,aE g.2.1 (12+4*g.1) g.2.2),(5,.int .i64 (g.1:Int))]) (fun _=>[cel b1 r.cells 54]) (fun g=>[own g.2.1 g.2.2 5 1 (12+4*g.1) (bytes ([r.g0,r.g1,r.g2].flatMap be4++([r.a0,r.a1,r.a2].take g.1).flatMap be4))]) (fun g=>3-g.1) (0,ob',c') ⟨by simp,by simp[show ob'.isSome=true from ho.elim (fun h=>by omega) id]⟩ (.cons rfl (.cons rfl (.cons rfl .nil))) (fun w h=>by simpa[aY] using h) ?_;rintro⟨i,ob',c'⟩ ⟨hi,ho⟩;dsimp only at hi ho ⊢;refine go 7 ?_;refine CW.cond rfl (fun hlt=>?_) (fun hlt=>?_)
  ·refine go 8 ?_;have hlt:i<3:=by simp at hlt;omega
   refine al (j:=i) (ho:=rfl) (hlt:=hlt) (h:=?_);refine RL.load (ho:=rfl) (hr:=aD mQ (sel3_get r.a0 r.a1 r.a2 (o:=0+4) rfl rfl rfl hlt)) (h:=?_);refine ax (rput4 (sel3 r.a0 r.a1 r.a2 i)) (hb:=.inl rfl) (h:=?_);rintro _ _ _ ⟨ob1,cap1,rfl,rfl,rfl,ho1⟩;refine go 7 ?_;intro ob2 cap2 ho2;refine ap rfl (ad (by omega) (by omega)) ?_;refine go 2 ?_;refine NQ.round (g:=(i,ob',c')) (i+1,ob2,cap2) ⟨hlt,ho2.elim (fun h=>by omega) .inr⟩ (by show 3-(i+1)<3-i;omega) (.cons rfl (.cons (by rw[show 12+4*(i+1)=12+4*i+4 by omega];rfl) (.cons rfl .nil))) (fun w h=>?_);rw[bE (n':=12+4*(i+1)) (xs':=bytes ([r.g0,r.g1,r.g2].flatMap be4++([r.a0,r.a1,r.a2].take (i+1)).flatMap be4)) (by omega) (by rw[sel3_take _ _ _ hlt,List.flatMap_append];simp)] at h;exact h.rea (fun _ h=>h) rE
  ·refine go 13 ?_;have hi3:i=3:=by simp at hlt;omega
   subst hi3;exact db (l:=aX r) rfl rfl (.keep (aa _)) (by unfold aX;simp[hk,aY]) (by unfold aX;simp[hk]) (ho.elim (fun h=>by omega) .inr)
end Go.Proofs.YthlchaldjekokaaGreat
namespace Go.Proofs.YthlchaldjekokaaGreat
open Go.PK
theorem rbody_any(r:Rdg)(hr:r.Ok):Spc Tryz.prog 148 #[.agg r.cells.toArray] [] [] (OwnB (aX r)):=by
 by_cases h1:r.kind=1
 ·exact rbody_1 r h1 hr
 by_cases h2:r.kind=2
 ·exact rbody_2 r h2 hr
 by_cases h3:r.kind=3
 ·exact rbody_3 r h3 hr
 by_cases h4:r.kind=4
 ·exact rbody_4 r h4 hr
 by_cases h5:r.kind=5
 ·exact rbody_5 r h5 hr
 by_cases h6:r.kind=6
 ·exact rbody_6 r h6 hr
 by_cases h7:r.kind=7
 ·exact rbody_7 r h7 hr
 by_cases h8:r.kind=8
 ·exact rbody_8 r h8 hr
 by_cases h10:r.kind=10
 ·exact rbody_10 r h10 hr
 by_cases h12:r.kind=12
 ·exact rbody_12 r h12 hr
 by_cases h13:r.kind=13
 ·exact rbody_13 r h13 hr
 by_cases h14:r.kind=14
 ·exact rbody_14 r h14 hr
 exact rbody_none r ⟨h1,h2,h3,h4,h5,h6,h7,h8,h10,h12,h13,h14⟩
theorem rput_bad(r:Rdg)(hk: ¬(1≤r.kind∧r.kind≤14)):Spc Tryz.prog 77 #[.agg r.cells.toArray] [] [] (PutR r):=by
 have hs:cu r.kind=.tuple #[.int .i64 0,.int .i64 120]:=by rw[cu,if_neg hk]
 obtain⟨e1,e2⟩:=put_no (not_okP hk);refine Spc.enter Tryz.func77 (h:=?_);refine fun w0 hw0=>?_;refine go 12 ?_;intro b1;refine ab (bU r.kind) (h:=?_);refine go 1 ?_;rw[hs];refine go 22 ?_;refine dx (e:=5) 1 ?_;unfold PutR;rw[e1,e2];exact RQ.post (bb rfl rfl rfl) (.keep (aa _)) ⟨none,0,rfl,rfl,rfl⟩
theorem rput_none(r:Rdg)(hr:r.Ok)(hk:1≤r.kind∧r.kind≤14)(hg:bV r.kind (aX r)=none):Spc Tryz.prog 77 #[.agg r.cells.toArray] [] [] (PutR r):=by
 have hs:cu r.kind=.tuple #[.int .i64 (bW r.kind:Int),.int .i64 0]:=by rw[cu,if_pos hk]
 have hbl:=bodyR_len r;have hno: ¬okP r:=by rintro⟨x,hx,-⟩;rw[hg] at hx;cases hx
 obtain⟨e1,e2⟩:=put_no hno;refine Spc.enter Tryz.func77 (h:=?_);refine fun w0 hw0=>?_;refine go 12 ?_;intro b1;refine ab (bU r.kind) (h:=?_);refine go 1 ?_;rw[hs];refine go 18 ?_;refine ax (rbody_any r hr) (hb:=.inl rfl) (h:=?_);rintro _ _ _ ⟨ob1,cap1,rfl,rfl,rfl,ho1⟩;refine go 8 ?_;refine ar (rgot_any r.kind (ob1.map fun b=>⟨b,0,none⟩) (aX r).length cap1 (aX r) rfl (by omega)) (hl:=Lend.own mQ .nil) (h:=?_);refine go 1 ?_;rw[hg];unfold hP;refine go 13 ?_;intro b2;refine av (d:=29) (v':=.bool true) rfl (rfl) ?_;refine go 6 ?_;refine aI (h:=go 8 ?_);refine dx (e:=5) 1 ?_;unfold PutR;rw[e1,e2];exact RQ.post (bb rfl rfl rfl) (.keep (aa _)) ⟨none,0,rfl,rfl,rfl⟩
theorem rput_some(r x:Rdg)(hr:r.Ok)(hk:1≤r.kind∧r.kind≤14)(hg:bV r.kind (aX r)=some x):Spc Tryz.prog 77 #[.agg r.cells.toArray] [] [] (PutR r):=by
 have hs:cu r.kind=.tuple #[.int .i64 (bW r.kind:Int),.int .i64 0]:=by rw[cu,if_pos hk]
 have hbl:=bodyR_len r;have hx:=got_ok hr.kind hg;have hok:okP r↔x.cells=r.cells:=⟨fun⟨y,h1,h2⟩=>by rw[hg] at h1;cases h1;exact h2,fun h=>⟨x,hg,h⟩⟩;refine Spc.enter Tryz.func77 (h:=?_);refine fun w0 hw0=>?_;refine go 12 ?_;intro b1;refine ab (bU r.kind) (h:=?_);refine go 1 ?_;rw[hs];refine go 18 ?_;refine ax (rbody_any r hr) (hb:=.inl rfl) (h:=?_);rintro _ _ _ ⟨ob1,cap1,rfl,rfl,rfl,ho1⟩;refine go 8 ?_;refine ar (rgot_any r.kind (ob1.map fun b=>⟨b,0,none⟩) (aX r).length cap1 (aX r) rfl (by omega)) (hl:=Lend.own mQ .nil) (h:=?_);refine go 1 ?_;rw[hg];unfold hP;refine go 13 ?_;intro b2;refine av (d:=29) (v':=.bool false) rfl (rfl) ?_;refine go 2 ?_;obtain⟨c,hc⟩:∃c:Bool,c=true↔x.cells=r.cells:=⟨@decide _ (Classical.propDecidable (x.cells=r.cells)),by simp⟩;refine bj (hr:=neq_rdg (r:=c) hx hr hc _ _) (h:=go 3 ?_);refine CW.cond rfl (fun hne=>?_) (fun hne=>?_)
 ·refine go 8 ?_;have hno: ¬okP r:=by rw[hok,←hc];intro e;rw[e] at hne;cases hne
  obtain⟨e1,e2⟩:=put_no hno;refine dx (e:=5) 1 ?_;unfold PutR;rw[e1,e2];exact RQ.post (bb rfl rfl rfl) (.keep (aa _)) ⟨none,0,rfl,rfl,rfl⟩
 ·refine go 10 ?_
  have hyes:okP r:=by
   rw[hok,←hc]
   cases c with
   | true=>rfl
   | false=>cases hne
  obtain⟨e1,e2⟩:=put_yes hyes;unfold PutR;rw[e1,e2];exact RQ.post (bb rfl rfl rfl) (.drop (.keep (aa _))) ⟨ob1,cap1,rfl,rfl,rfl⟩
theorem rput_any(r:Rdg)(hr:r.Ok):Spc Tryz.prog 77 #[.agg r.cells.toArray] [] [] (PutR r):=by
 by_cases hk:1≤r.kind∧r.kind≤14
 ·cases hg:bV r.kind (aX r) with
  | none=>exact rput_none r hr hk hg
  | some x=>exact rput_some r x hr hk hg
 ·exact rput_bad r hk
theorem rgrd_any(z:RCr)(n:Int)(hz:z.Ok):Spc Tryz.prog 37 #[.pointer (some ⟨z.b,0,none⟩),.int .i64 n] [eN z,rcrS z] [] (Is (GrdV z.c n)):=by
 have h45:=cj hz.cm (aE z.oa z.c.L.length z.ca);have hfd:=rcfind_any z.c z.oa z.ca _ n rfl hz.fit (by have:=hz.n;omega);have hfit:=pickS_fit (p:=fun s:Sr=>s.id==n) hz.fit.L;have h48:=c7 hfit.rt;rw[GrdV];generalize ik (fun s:Sr=>s.id==n) z.c.L=g at hfd hfit h48 ⊢;obtain⟨s,ok⟩:=g;dsimp only at hfit h48 ⊢;refine Spc.enter Tryz.func37 (h:=?_);refine fun w0 hw0=>?_;refine go 7 ?_;intro b1;refine CW.openT (l:=RcrL z) (by simp) (fun J hJ hz'=>?_);have mC:rcrC z∈J:=hz' _ (by simp);have mS:rcrS z∈J:=hJ _ (by simp);clear hJ hz';have fC:RdsN J ⟨z.b,0+0,none⟩ 45 (z.c.cells (aE z.oa z.c.L.length z.ca)):=aV mC (rcr_c hz.cm) h45;refine go 6 ?_;refine ar (hfd) (hl:=.inI mS .nil) (h:=go 4 ?_);intro b2;refine an (ho:=rfl) (h1:=cw s) (hv:=h48) (h:=?_);refine go 4 ?_;refine aB (A:=[cel b2 s.cells 134]) (B:=[cel b1 zeroS.cells 134]) (h:=?_);refine aW (fun J2 hJ2=>?_);have m2:cel b2 s.cells 134∈J2:=hJ2 _ (List.Mem.head _);clear hJ2 fC;have fA:RdsN J2 ⟨b2,0,none⟩ 48 s.cells:=⟨fun _=>Rds.allI m2,h48⟩;have fK:RdI J2 ⟨b2,0+1,none⟩ (.int .i64 s.kd):=⟨fun _=>Rd.celI m2 rfl⟩
 cases ok with
 | false=>refine ae (Sq.of [0,1,2,3,4,5,6,7,8,9,10]) [5,9] [9] [0,1,2,3,4,6,7,8,10] (h:=?_);refine go 3 ?_;refine av (d:=19) (v':=.bool false) rfl (rfl) ?_;refine go 6 ?_;refine an (ho:=rfl) (h1:=cw s) (hv:=h48) (h:=?_);refine go 4 ?_;exact RQ.post (bG rfl rfl rfl KA134.h KS134.h mQ h48) (aa _) ⟨rfl,rfl,rfl⟩
 | true=>refine ae (Sq.of [0,1,2,3,4,5,6,7,8,9,10]) [5,9] [9] [0,1,2,3,4,6,7,8,10] (h:=?_);refine go 3 ?_;refine av (d:=19) (v':=.bool true) rfl (rfl) ?_;refine go 2 ?_;refine RL.call (rkinds_any s.kd) (hl:=.nil) (hb:=.inl rfl) (h:=?_);rintro _ _ _ ⟨qo,qc,rfl,rfl,rfl⟩;have hkl:=jl s.kd;refine go 3 ?_;refine an (ho:=rfl) (h1:=cw s) (hv:=h48) (h:=?_);refine go 4 ?_;refine RQ.post (bG rfl rfl rfl KA134.h KS134.h mQ h48) (aa _) ⟨?_,rfl,rfl⟩;cases aH s.kd<;>simp
def RPutF(z:RCr)(x:FrO):Value→List It→List It→Prop:=fun v I' H'=>∃rb rc so soc,v=aE rb (eA x.f).length rc∧I'=[]∧H'=[eN (z.put x so soc),own rb rc 5 1 (eA x.f).length (bytes (eA x.f))]
theorem rcput_any(z:RCr)(x:FrO)(hz:z.c.cm.length=32)(hll:z.l.length≤1000)(hx:x.f.Fit):Spc Tryz.prog 78 #[.pointer (some ⟨z.b,0,none⟩),frV x] [] [eN z,bodyO x] (RPutF z x):=by
 have h21:=dT hx.ok.tag x.sl;have hbl:=hx.b;refine Spc.enter Tryz.func78 (h:=?_);refine fun w0 hw0=>?_;refine go 7 ?_;intro b1;refine aB (A:=[cel b1 x.cells 151]) (B:=[eN z,bodyO x]) (h:=?_);refine aW (fun J hJ=>?_);have m1:cel b1 x.cells 151∈J:=hJ _ (List.Mem.head _);clear hJ;have fA:RdsN J ⟨b1,0,none⟩ 21 x.cells:=⟨fun _=>Rds.allI m1,h21⟩;refine CW.rcrOpen (CW.perm (List.Perm.refl [rcrC z,rcrL z,rcrK z,rcrB z,bodyO x]) ?_);refine fQ (γ:=Option Nat×Nat) (fun _=>True) (fun _=>[(3,.pointer (some ⟨b1,0,none⟩))]) (fun _=>J) (fun g=>[cel z.b (z.put x g.1 g.2).cells 146,own g.1 g.2 151 21 (z.l.length+1) ((z.l++[x]).flatMap FrO.cells),rcrK z,rcrB z,bodyO x]) ?_ ?_
 ·refine ae (Sq.of [0,1,2,3,4,5,6,7,8,9,10]) [6,7,10] [7,10] [0,1,2,3,5,8,9] (h:=?_);refine go 4 ?_;refine RL.load (ho:=rfl) (hr:=Rd.get mQ (rcr_l hz)) (h:=?_);refine go 1 ?_;refine RL.buildSlice x.cells (ho:=rfl) (hf:=fill_one21 h21 rfl) (h:=?_);intro b2;refine cd KE144.h rfl rfl rfl rfl rfl rfl rfl (by first|exact⟨(.take (ai _)),rfl⟩|exact⟨(.leave (.take (ai _))),rfl⟩|exact⟨(.leave (.leave (.take (ai _)))),rfl⟩|exact⟨(.leave (.leave (.leave (.take (ai _))))),rfl⟩|exact⟨(.leave (.leave (.leave (.leave (.take (ai _)))))),rfl⟩|exact⟨(.leave (.leave (.leave (.leave (.leave (.take (ai _))))))),rfl⟩|exact⟨(.leave (.leave (.leave (.leave (.leave (.leave (.take (ai _)))))))),rfl⟩|exact⟨(.leave (.leave (.leave (.leave (.leave (.leave (.leave (.take (ai _))))))))),rfl⟩|exact⟨(.leave (.leave (.leave (.leave (.leave (.leave (.leave (.leave (.take (ai _)))))))))),rfl⟩|exact⟨(.leave (.leave (.leave (.leave (.leave (.leave (.leave (.leave (.leave (.take (ai _))))))))))),rfl⟩) (Src.cel mQ h21) (fun u hu=>dI (ones_fro x) u hu) (by first|omega|(simp only[maxLen];omega)) (by first|omega|(simp only[maxLen];omega)) ?_;intro ob1 cap1 ho1;refine go 2 ?_;refine aj (vs:=[_]) (rset_l hz x _ _) (ho:=rfl) (hl:=by rw[rcr_len hz];show 0+62+1≤63;decide) (h:=?_);refine go 1 ?_;exact aJ (ob1,cap1) trivial (.cons rfl .nil) (fun w h=>by rw[put_flat] at h;exact h.rea (fun _ h=>h) rE)
 rintro⟨so,soc⟩ -;dsimp only;refine go 3 ?_;refine RL.call (rfput_any x.f (x.ob.map fun b=>⟨b,0,none⟩) x.cp _ hx rfl) (hl:=Lend.own mQ .nil) (hb:=.inl rfl) (h:=?_);rintro _ _ _ ⟨rb,rc,rfl,rfl,rfl⟩;refine go 14 ?_;refine RQ.rea (fun _ h=>h) (H':=[bodyO x,rcrB z,cel z.b (z.put x so soc).cells 146,own so soc 151 21 (z.l.length+1) ((z.l++[x]).flatMap FrO.cells),own rb rc 5 1 (eA x.f).length (bytes (eA x.f)),rcrK z]) rE ?_;refine RQ.pushA (m:=(z.l++[x]).map bodyO) (by rw[List.map_append];exact List.perm_append_comm) ?_;rw[bE (n':=(z.l++[x]).length) (by simp) rfl];refine RQ.rcr (z:=z.put x so soc) (C:=[own rb rc 5 1 (eA x.f).length (bytes (eA x.f))]) rE ?_;exact RQ.post (az rfl rfl) (.keep (.keep .nil)) ⟨rb,rc,so,soc,rfl,rfl,rfl⟩
def RCr.snd(z:RCr)(s:Sr):Snd:=⟨s,z.ep s.id.toNat,z.ct s.id.toNat,0⟩
def RSendR(z:RCr)(s:Sr)(r:Rdg):Value→List It→List It→Prop:=fun v I' H'=>I'=[]∧((sendE (z.snd s) r≠0∧v=.tuple #[.slice none 0 0,.int .i64 (sendE (z.snd s) r)]∧H'=[eN z])∨
 (sendE (z.snd s) r=0∧∃rb rc bo bc so soc,v=.tuple #[aE rb (eA (frS (z.snd s) r)).length rc,.int .i64 0]∧H'=[eN ((z.setC s.id.toNat (z.ct s.id.toNat+1)).put ⟨frS (z.snd s) r,bo,bc⟩ so soc),own rb rc 5 1 (eA (frS (z.snd s) r)).length (bytes (eA (frS (z.snd s) r)))]))
theorem sr_root(s:Sr):∀(j:Nat) (u:Value),(bytes s.rt)[j]?=some u→s.cells[0+2+j]?=some u:=fun j u hj=>by
 rw[Sr.cells,show 0+2+j=j+1+1 by omega]
 simp only[List.getElem?_cons_succ]
 rw[List.getElem?_append_left (List.getElem?_eq_some_iff.1 hj).1];exact hj
theorem cont_snoc{l:List Int}{i:Nat}{x k:Int}(h:l[i]?=some x):(l.take (i+1)).contains k=((l.take i).contains k||(x==k)):=by rw[List.take_add_one,h];show(l.take i++[x]).contains k=_;rw[Bool.eq_iff_iff,List.contains_iff_mem,Bool.or_eq_true,List.contains_iff_mem,List.mem_append,List.mem_singleton,beq_iff_eq];exact or_congr Iff.rfl eq_comm
theorem rcsend_any(z:RCr)(s:Sr)(r:Rdg)(hr:r.Ok)(hz:z.Ok)(hs:s.Fit)(hid:0≤s.id∧s.id≤7)(hm:z.l.length<1000):Spc Tryz.prog 38 #[.pointer (some ⟨z.b,0,none⟩),.agg s.cells.toArray,.agg r.cells.toArray] [] [eN z] (RSendR z s r):=by
 have h57:r.cells.length=57:=rfl;have h48:=c7 hs.rt;have hbl:=putB_len48 r;have hkn:=jl s.kd;obtain⟨i,hi⟩:∃i:Nat,s.id=(i:Int):=⟨s.id.toNat,by omega⟩;have hi8:i<8:=by omega
 have hit:s.id.toNat=i:=by omega
 have hep:=hz.ep i;have hct:=hz.ct i;refine Spc.enter Tryz.func38 (h:=?_);refine fun w0 hw0=>?_;refine go 9 ?_;intro b1 b2;refine aB (A:=[cel b2 r.cells 54,cel b1 s.cells 134]) (B:=[eN z]) (h:=?_);refine aW (fun J hJ=>?_);have m2:cel b2 r.cells 54∈J:=hJ _ (by simp);have m1:cel b1 s.cells 134∈J:=hJ _ (by simp);clear hJ;have fk:RdI J ⟨b2,0+0,none⟩ (.int .i64 r.kind):=⟨fun _=>Rd.celI m2 rfl⟩;have fA:RdsN J ⟨b2,0,none⟩ 57 r.cells:=⟨fun _=>Rds.allI m2,h57⟩;have fK:RdI J ⟨b1,0+1,none⟩ (.int .i64 s.kd):=⟨fun _=>Rd.celI m1 rfl⟩;refine go 2 ?_;refine RL.call (rput_any r hr) (hl:=.nil) (hb:=.inl rfl) (h:=?_);rintro _ _ _ ⟨bo,bc,rfl,rfl,rfl⟩;refine go 16 ?_;refine RL.call (rkinds_any s.kd) (hl:=.nil) (hb:=.inl rfl) (h:=?_);rintro _ _ _ ⟨ko,kc,rfl,rfl,rfl⟩;refine go 5 ?_;refine aB (A:=[own ko kc 3 1 (aH s.kd).length (bO (aH s.kd))]) (B:=[own bo bc 5 1 (eJ r).length (bytes (eJ r)),eN z]) (h:=?_);refine aW (fun J2 hJ2=>?_);have mK:own ko kc 3 1 (aH s.kd).length (bO (aH s.kd))∈J2:=hJ2 _ (List.Mem.head _);have n2:cel b2 r.cells 54∈J2:=hJ2 _ (List.Mem.tail _ m2);have n1:cel b1 s.cells 134∈J2:=hJ2 _ (List.Mem.tail _ m1);clear hJ2 fk fA fK;have fk:RdI J2 ⟨b2,0+0,none⟩ (.int .i64 r.kind):=⟨fun _=>Rd.celI n2 rfl⟩;have fD:RdI J2 ⟨b1,0+0,none⟩ (.int .i64 (i:Int)):=⟨fun _=>Rd.celI n1 (by rw[←hi];rfl)⟩;have fR:RdsN J2 ⟨b1,0+2,none⟩ 32 (bytes s.rt):=aV n1 (sr_root s) (by rw[List.length_map,hs.rt]);refine aR (p:=ko=none→(aH s.kd).length=0) (fun w hC e=>dW (by have:=hC.s.i _ mK;rw[e] at this;exact this)) (fun hko=>?_);refine go 5 ?_;refine CW.loop (γ:=Nat) (fun j=>j≤(aH s.kd).length) (fun j=>[(0,.pointer (some ⟨z.b,0,none⟩)),(4,.pointer (some ⟨b1,0,none⟩)),(5,.pointer (some ⟨b2,0,none⟩)),(8,aE bo (eJ r).length bc),(9,.int .i64 (putE r)),(10,.bool (((aH s.kd).take j).contains r.kind)),(11,aE ko (aH s.kd).length kc),(12,.int .i64 (j:Int))]) (fun _=>J2) (fun _=>[own bo bc 5 1 (eJ r).length (bytes (eJ r)),eN z]) (fun j=>(aH s.kd).length-j) 0 (Nat.zero_le _) (.cons rfl (.cons rfl (.cons rfl (.cons rfl (.cons rfl (.cons rfl (.cons rfl (.cons rfl .nil)))))))) (fun w h=>h) ?_;intro j hj;refine go 9 ?_;refine CW.cond rfl (fun hlt=>?_) (fun hlt=>?_)
 ·have hlt:j<(aH s.kd).length:=by simp at hlt;omega
  obtain⟨kb,rfl⟩:∃kb,ko=some kb:=by
   cases ko with
   | none=>exact absurd (hko rfl) (by omega)
   | some kb=>exact⟨kb,rfl⟩
  have hx:=List.getElem?_eq_getElem hlt;have hsn:=fun k=>cont_snoc (k:=k) hx;generalize (aH s.kd)[j]=x at hx hsn;have fX:RdI J2 ⟨kb,0+j*1,none⟩ (.int .i64 x):=⟨fun H w hw=>by have h0:(own (some kb) kc 3 1 (aH s.kd).length (bO (aH s.kd))).A w:=hw.i _ mK;have hs:Sat [] [own (some kb) kc 3 1 (aH s.kd).length (bO (aH s.kd))] w:=⟨by simp,by simpa using h0,by simp[PK.own],by simp⟩;have:=ic (I:=[]) (List.Mem.head _) (show(bO (aH s.kd))[j*1]?=some (.int .i64 x) by rw[Nat.mul_one,List.getElem?_map,hx];rfl) w hs;rwa[bn] at this⟩
  refine go 4 ?_;refine ae (Sq.of [0,1,2,3,4,5,6,7,8,9,10]) [] [] [0,1,2,3,4,5,6,7,8,9,10] (h:=?_);refine go 2 ?_;apply au (d:=29) (dp:=37) (l':=(Sq.of [10])) rfl (sK [0,4,5,8,9,10,11,12] rfl)
  ·intro hb2 K2;refine go 2 ?_;refine aP (j:=j) (ho:=rfl) (hlt:=hlt) (h:=go 5 ?_);exact K2 _ (.cons rfl (sK [0,4,5,8,9,10,11,12] rfl))
  ·intro hb2 K2;refine go 8 ?_;exact K2 _ (.cons rfl (sK [0,4,5,8,9,10,11,12] rfl))
  refine go 6 ?_;refine ap rfl (ad (by omega) (by omega)) ?_;refine go 2 ?_;refine NQ.round (g:=j) (j+1) hlt (by show(aH s.kd).length-(j+1)<(aH s.kd).length-j;omega) (.cons rfl (.cons rfl (.cons rfl (.cons rfl (.cons rfl (.cons (by rw[hsn];rfl) (.cons rfl (.cons rfl .nil)))))))) (fun w h=>h)
 ·have hin:j=(aH s.kd).length:=by simp at hlt;omega
  subst hin;rw[List.take_length];have hx1:(z.snd s).ct=z.ct i:=by rw[RCr.snd,hit]
  refine go 11 ?_;apply au (d:=40) (dp:=43) (l':=(Sq.of [])) rfl (sK [0,4,5,8] rfl)
  ·intro hb3 K3;refine go 3 ?_;exact K3 _ (.cons rfl (sK [0,4,5,8] rfl))
  ·intro hb3 K3;refine go 3 ?_;exact K3 _ (.cons rfl (sK [0,4,5,8] rfl))
  refine go 2 ?_;refine CW.cond rfl (fun hk=>?_) (fun hk=>?_)
  ·refine go 8 ?_;have hE:=sendE_no (x:=z.snd s) (r:=r) (fun h=>by have h1:=h.1;have h2:(aH s.kd).contains r.kind=true:=h.2;rw[h1,h2] at hk;cases hk);refine RQ.rea (fun _ h=>h) (H':=[eN z]) rE ?_;exact RQ.post (bb rfl rfl rfl) (.keep (aa _)) ⟨rfl,.inl ⟨by rw[hE];decide,by rw[hE],rfl⟩⟩
  ·refine go 4 ?_;refine ae (Sq.of [0,1,2,3,4,5,6,7]) [] [] [0,1,2,3,4,5,7] (h:=?_);refine go 5 ?_;refine al (j:=i) (ho:=rfl) (hlt:=hi8) (h:=?_);refine RL.load (ho:=rfl) (hr:=Rd.lie mQ (lie_rc z) (rcr_n hz.cm hi8)) (h:=?_);refine go 3 ?_;have hk:putE r=0∧(aH s.kd).contains r.kind=true:=by simpa using hk
   have hE:=sendE_yes (x:=z.snd s) hk;rw[hx1] at hE;refine CW.cond rfl (fun hc=>?_) (fun hc=>?_)
   ·refine go 8 ?_;have hc:z.ct i=18446744073709551615:=by simp at hc;omega
    rw[if_pos hc] at hE;refine RQ.rea (fun _ h=>h) (H':=[eN z]) rE ?_;exact RQ.post (bb rfl rfl rfl) (.keep (aa _)) ⟨rfl,.inl ⟨by rw[hE];decide,by rw[hE],rfl⟩⟩
   ·have hc:z.ct i≠18446744073709551615:=by simp at hc;omega
    rw[if_neg hc] at hE;have hfit:=frS_fit (x:=z.snd s) (r:=r) hid (by show z.ep s.id.toNat<_;rw[hit];exact hep) (by rw[hx1];exact hct) (by rw[sendE_yes hk,hx1,if_neg hc]);have hfs:frS (z.snd s) r=(⟨r.kind,(i:Int),z.ep i,z.ct i+1,eJ r,List.replicate 16 0#8⟩:Fr).sign s.rt:=by rw[frS,RCr.snd,hit,hi]
    have hQ:∀v I' H',I'=[]→(∃rb rc so soc,v=.tuple #[aE rb (eA (frS (z.snd s) r)).length rc,.int .i64 0]∧H'=[eN ((z.setC i (z.ct i+1)).put ⟨frS (z.snd s) r,bo,bc⟩ so soc),own rb rc 5 1 (eA (frS (z.snd s) r)).length (bytes (eA (frS (z.snd s) r)))])→RSendR z s r v I' H':=fun v I' H' h1 ⟨rb,rc,so,soc,h2,h3⟩=>⟨h1,.inr ⟨hE,rb,rc,bo,bc,so,soc,h2,by rw[hit];exact h3⟩⟩;rw[hfs] at hfit hQ;clear hx1;generalize hz1:z.setC i (z.ct i+1)=z1 at hQ;have hcm1:z1.c.cm.length=32:=by rw[←hz1];exact hz.cm
    have hb1:z1.b=z.b:=by rw[←hz1];rfl
    have he1:z1.cells[0+46+i*1]?=some (.int .u32 (z.ep i:Int)):=by rw[rcr_e hcm1 hi8,←hz1];rfl
    have hn1:z1.cells[0+54+i*1]?=some (.int .u64 ((z.ct i+1:Nat):Int)):=by rw[rcr_n hcm1 hi8,←hz1];simp[RCr.setC,upN]
    have hll1:z1.l.length≤1000:=by rw[←hz1];exact Nat.le_of_lt hm
    have hset:=rset_n hz.cm hi8 (z.ct i+1);rw[hz1] at hset;refine go 3 ?_;refine CW.rea (fun _ h=>h) (H':=[eN z,own bo bc 5 1 (eJ r).length (bytes (eJ r))]) rE ?_;refine CW.rcrOpen (CW.perm (List.Perm.refl [rcrC z,rcrL z,rcrK z,rcrB z,own bo bc 5 1 (eJ r).length (bytes (eJ r))]) (ae (Sq.of [0,1,2,3,4,5,6,7,8,9,10,11]) [11] [11] [0,1,2,3,4,5,7,8,9,10] (h:=?_)));refine go 5 ?_;refine al (j:=i) (ho:=rfl) (hlt:=hi8) (h:=?_);refine RL.load (ho:=rfl) (hr:=Rd.get mQ (rcr_n hz.cm hi8)) (h:=?_);refine ap rfl (wrapV_u64 (by omega) (by omega)) ?_;refine go 2 ?_;refine al (j:=i) (ho:=rfl) (hlt:=hi8) (h:=?_);refine aj (vs:=[_]) hset (ho:=rfl) (hl:=by rw[rcr_len hz.cm];show 0+54+i*1+1≤63;omega) (h:=?_);refine go 3 ?_;have hrl:rcrL z1=rcrL z:=by rw[←hz1];rfl
    have hrk:rcrK z1=rcrK z:=by rw[←hz1];rfl
    have hrb:rcrB z1=rcrB z:=by rw[←hz1];rfl
    rw[←hrl,←hrk,←hrb,←hb1];refine CW.rcr (z:=z1) (C:=[own bo bc 5 1 (eJ r).length (bytes (eJ r))]) rE ?_;have hsg:=rsign_any ⟨r.kind,(i:Int),z.ep i,z.ct i+1,eJ r,List.replicate 16 0#8⟩ s.rt (bo.map fun b=>⟨b,0,none⟩) bc _ hs.rt ⟨hep,by show z.ct i+1<18446744073709551616;omega,rfl⟩ rfl (by show(eJ r).length≤900000;omega);have h21:=dT (f:=⟨r.kind,(i:Int),z.ep i,z.ct i+1,eJ r,List.replicate 16 0#8⟩) rfl (aE bo (eJ r).length bc);have hput:=rcput_any z1 ⟨(⟨r.kind,(i:Int),z.ep i,z.ct i+1,eJ r,List.replicate 16 0#8⟩:Fr).sign s.rt,bo,bc⟩ hcm1 hll1 hfit;rw[show bodyO ⟨(⟨r.kind,(i:Int),z.ep i,z.ct i+1,eJ r,List.replicate 16 0#8⟩:Fr).sign s.rt,bo,bc⟩=own bo bc 5 1 (eJ r).length (bytes (eJ r)) from rfl] at hput;refine ae (Sq.of [0,1,2,3,4,5,6,7,8,9,10,11,12,13,14,15,16,17,18,19,20,21]) [20,21] [21] [0,1,2,3,4,5,6,7,8,9,11,12,13,14,15,16,18,19] (h:=?_);refine go 9 ?_;refine al (j:=i) (ho:=rfl) (hlt:=hi8) (h:=?_);refine RL.load (ho:=rfl) (hr:=Rd.lie mQ (lie_rc z1) he1) (h:=?_);refine go 5 ?_;refine al (j:=i) (ho:=rfl) (hlt:=hi8) (h:=?_);refine RL.load (ho:=rfl) (hr:=Rd.lie mQ (lie_rc z1) hn1) (h:=?_);refine go 1 ?_;refine ay ((⟨r.kind,(i:Int),z.ep i,z.ct i+1,eJ r,List.replicate 16 0#8⟩:Fr).cells (aE bo (eJ r).length bc)) (ho:=rfl) (hf:=fill_fr rfl rfl) (h:=go 1 ?_);intro b3;refine an (ho:=rfl) (h1:=ig _ rfl) (hv:=h21) (h:=?_);refine go 7 ?_;refine aT (ho:=rfl) (hl:=h21) (h:=?_);refine ar (hsg) (hl:=Lend.own (xs:=bytes (eJ r)) mQ .nil) (h:=?_);refine ax (hput) (hb:=.inr rfl) (h:=?_);rintro _ _ _ ⟨rb,rc,so,soc,rfl,rfl,rfl⟩;refine go 5 ?_;exact RQ.post (bb rfl rfl rfl) (.keep (.keep (aa _))) (hQ _ _ _ rfl ⟨rb,rc,so,soc,rfl,rfl⟩)
def RErrQ(z:RCr)(e:Int):Value→List It→List It→Prop:=fun v I' H'=>v=.tuple #[.slice none 0 0,.int .i64 e]∧I'=[]∧H'=[eN z]
def RSendQ(z:RCr)(n:Int)(r:Rdg):Value→List It→List It→Prop:=fun v I' H'=>(grd z.c n=none∧RErrQ z 5 v I' H')∨∃s,grd z.c n=some s∧((r.kind=10∧RErrQ z 120 v I' H')∨(r.kind≠10∧RSendR z s r v I' H'))
theorem rSend_any(z:RCr)(n:Int)(r:Rdg)(hr:r.Ok)(hz:z.Ok)(hm:z.l.length<1000):Spc Tryz.prog 15 #[.pointer (some ⟨z.b,0,none⟩),.int .i64 n,.agg r.cells.toArray] [rcrS z] [eN z] (RSendQ z n r):=by
 have h57:r.cells.length=57:=rfl;refine Spc.enter Tryz.func15 (h:=?_);refine fun w0 hw0=>?_;refine go 8 ?_;intro b1;refine aB (A:=[cel b1 r.cells 54]) (B:=[eN z]) (h:=?_);refine aW (fun J hJ=>?_);have m1:cel b1 r.cells 54∈J:=hJ _ (by simp);have mS:rcrS z∈J:=hJ _ (by simp);clear hJ;have fk:RdI J ⟨b1,0+0,none⟩ (.int .i64 r.kind):=⟨fun _=>Rd.celI m1 rfl⟩;have fA:RdsN J ⟨b1,0,none⟩ 57 r.cells:=⟨fun _=>Rds.allI m1,h57⟩;have hgr:=rgrd_any z n hz
 cases hg:grd z.c n with
 | none=>
  obtain⟨s,hs,hv⟩:=grd_none hg;rw[hv] at hgr
  have h48:s.cells.length=48:=by
   rcases hs with rfl|hs
   ·rfl
   ·exact c7 (hz.L s hs).1.rt
  refine go 3 ?_;refine ar (hgr) (hl:=.inH mQ (.inI mS .nil)) (h:=?_);refine go 4 ?_;intro b2;refine an (ho:=rfl) (h1:=cw s) (hv:=h48) (h:=?_);refine go 19 ?_;refine RQ.rea (fun _ h=>h) (H':=[eN z]) rE ?_;exact RQ.post (bb rfl rfl rfl) (.keep .nil) (.inl ⟨hg,rfl,rfl,rfl⟩)
 | some s=>
  obtain⟨hv,hsm,hsn⟩:=grd_some hg;rw[hv] at hgr;have hsf:=(hz.L s hsm).1;have hid:=(hz.L s hsm).2;have h48:=c7 hsf.rt;obtain⟨i,hi⟩:∃i:Nat,s.id=(i:Int):=⟨s.id.toNat,by omega⟩;have hi8:i<8:=by omega
  have hit:s.id.toNat=i:=by omega
  have hep:=hz.ep i;have hct:=hz.ct i;refine go 3 ?_;refine ar (hgr) (hl:=.inH mQ (.inI mS .nil)) (h:=?_);refine go 4 ?_;intro b2;refine an (ho:=rfl) (h1:=cw s) (hv:=h48) (h:=?_);refine go 21 ?_;refine CW.cond rfl (fun hk=>?_) (fun hk=>?_)
  ·refine go 8 ?_;have hk:r.kind=10:=by simpa using hk
   refine RQ.rea (fun _ h=>h) (H':=[eN z]) rE ?_;exact RQ.post (bb rfl rfl rfl) (.keep .nil) (.inr ⟨s,hg,.inl ⟨hk,rfl,rfl,rfl⟩⟩)
  ·have hk:r.kind≠10:=by simpa using hk
   refine go 5 ?_;refine aT (ho:=rfl) (hl:=h48) (h:=?_);refine go 1 ?_;refine ax (rcsend_any z s r hr hz hsf hid hm) (hb:=.inr rfl) (h:=?_);rintro v I' H' hv;have hv':=hv
   rcases hv' with⟨rfl,⟨-,rfl,rfl⟩|⟨-,rb,rc,bo,bc,so,soc,rfl,rfl⟩⟩
   ·refine go 7 ?_;exact RQ.post (bb rfl rfl rfl) (.keep (aa _)) (.inr ⟨s,hg,.inr ⟨hk,hv⟩⟩)
   ·refine go 7 ?_;exact RQ.post (bb rfl rfl rfl) (.keep (.keep (aa _))) (.inr ⟨s,hg,.inr ⟨hk,hv⟩⟩)
theorem plainS_fit(seed:B8)(id kd:Int):(dU seed id kd).Fit:=by refine⟨by rw[plainS_rt];exact rootB_len _ _,?_,?_,?_⟩<;>unfold dU<;>(repeat' split)<;>simp[magS,aidS,noS,i64]
theorem plainL_fit(seed:B8)(gone:List Int)(i:Nat):∀s∈cK seed gone i,s.Fit:=fun s hs=>by
 obtain⟨j,-,rfl⟩:=List.mem_map.1 hs
 exact plainS_fit _ _ _
theorem plainC_fit(seed:B8)(gone:List Int):(aZ seed gone).Fit:=⟨rfl,plainL_fit _ _ _⟩
def lastK(seed:B8):List B8:=seed::77#8::List.replicate 30 0#8
theorem lastK_len(seed:B8):(lastK seed).length=32:=by simp[lastK]
def cfgK(seed:B8):List B8:=cG (lastK seed) 24
theorem cC(seed:B8):(cfgK seed).length=32:=d6 (lastK_len seed) 24
def bL(seed:B8):Cf:=⟨0,0,42949672960,4194304,⟨0,10,2,3⟩,cfgK seed,3,40,15,8,cK seed [] 6⟩
theorem cfgC_fit(seed:B8):(bL seed).Fit:=⟨cC seed,plainL_fit _ _ _⟩
theorem cfgC_len(seed:B8):(bL seed).L.length=6:=rfl
theorem cf_seg(c:Cf)(sl:Value):c.cells sl=[sl,.int .i64 c.g0,.int .i64 c.g1,.int .i64 c.g2,.int .i64 c.dr]++([.int .i64 c.sc.st,.int .i64 c.sc.ln,.int .i64 c.sc.lg,.int .i64 c.sc.of]++(bytes c.cm++c.tl)):=rfl
theorem set_sc(c:Cf)(sl:Value)(a b d e:Int):bP (c.cells sl) (0+5) [.int .i64 a,.int .i64 b,.int .i64 d,.int .i64 e]=Cf.cells ⟨c.g0,c.g1,c.g2,c.dr,⟨a,b,d,e⟩,c.cm,c.mo,c.ti,c.gr,c.sd,c.L⟩ sl:=by rw[cf_seg,cf_seg];exact bI rfl rfl
theorem set_cm(c:Cf)(sl:Value){k:List B8}(h:c.cm.length=32)(hk:k.length=32):bP (c.cells sl) (0+9) (bytes k)=Cf.cells ⟨c.g0,c.g1,c.g2,c.dr,c.sc,k,c.mo,c.ti,c.gr,c.sd,c.L⟩ sl:=by have e:∀(x:Cf),x.cells sl=[sl,.int .i64 x.g0,.int .i64 x.g1,.int .i64 x.g2,.int .i64 x.dr,.int .i64 x.sc.st,.int .i64 x.sc.ln,.int .i64 x.sc.lg,.int .i64 x.sc.of]++(bytes x.cm++x.tl):=fun _=>rfl;rw[e,e];exact bI rfl (by simp[h,hk])
theorem cf_pre(c:Cf)(sl:Value):c.cells sl=(sl:: .int .i64 c.g0:: .int .i64 c.g1:: .int .i64 c.g2:: .int .i64 c.dr:: .int .i64 c.sc.st:: .int .i64 c.sc.ln:: .int .i64 c.sc.lg:: .int .i64 c.sc.of::bytes c.cm)++c.tl:=rfl
theorem set_cmo(c:Cf)(sl:Value)(h:c.cm.length=32)(v:Int):bP (c.cells sl) (0+41) [.int .i64 v]=Cf.cells ⟨c.g0,c.g1,c.g2,c.dr,c.sc,c.cm,v,c.ti,c.gr,c.sd,c.L⟩ sl:=by have e:∀v:Int,Cf.tl ⟨c.g0,c.g1,c.g2,c.dr,c.sc,c.cm,v,c.ti,c.gr,c.sd,c.L⟩=[.int .i64 v]++[.int .i64 c.ti,.int .i64 c.gr,.int .u64 c.sd]:=fun _=>rfl;rw[cf_pre,cf_pre,show c.tl=[.int .i64 c.mo]++[.int .i64 c.ti,.int .i64 c.gr,.int .u64 c.sd] from rfl,e];exact bI (by simp[h]) rfl
theorem set_cti(c:Cf)(sl:Value)(h:c.cm.length=32)(v:Int):bP (c.cells sl) (0+42) [.int .i64 v]=Cf.cells ⟨c.g0,c.g1,c.g2,c.dr,c.sc,c.cm,c.mo,v,c.gr,c.sd,c.L⟩ sl:=by
 have e:∀v:Int,Cf.cells ⟨c.g0,c.g1,c.g2,c.dr,c.sc,c.cm,c.mo,v,c.gr,c.sd,c.L⟩ sl=(sl:: .int .i64 c.g0:: .int .i64 c.g1:: .int .i64 c.g2:: .int .i64 c.dr:: .int .i64 c.sc.st:: .int .i64 c.sc.ln:: .int .i64 c.sc.lg:: .int .i64 c.sc.of::(bytes c.cm++[.int .i64 c.mo]))++([.int .i64 v]++[.int .i64 c.gr,.int .u64 c.sd]):=fun _=>by simp[Cf.cells,Cf.tl]
 rw[e,e];exact bI (by simp[h]) rfl
theorem set_cgr(c:Cf)(sl:Value)(h:c.cm.length=32)(v:Int):bP (c.cells sl) (0+43) [.int .i64 v]=Cf.cells ⟨c.g0,c.g1,c.g2,c.dr,c.sc,c.cm,c.mo,c.ti,v,c.sd,c.L⟩ sl:=by
 have e:∀v:Int,Cf.cells ⟨c.g0,c.g1,c.g2,c.dr,c.sc,c.cm,c.mo,c.ti,v,c.sd,c.L⟩ sl=(sl:: .int .i64 c.g0:: .int .i64 c.g1:: .int .i64 c.g2:: .int .i64 c.dr:: .int .i64 c.sc.st:: .int .i64 c.sc.ln:: .int .i64 c.sc.lg:: .int .i64 c.sc.of::(bytes c.cm++[.int .i64 c.mo,.int .i64 c.ti]))++([.int .i64 v]++[.int .u64 c.sd]):=fun _=>by simp[Cf.cells,Cf.tl]
 rw[e,e];exact bI (by simp[h]) rfl
theorem set_csd(c:Cf)(sl:Value)(h:c.cm.length=32)(v:Int):bP (c.cells sl) (0+44) [.int .u64 v]=Cf.cells ⟨c.g0,c.g1,c.g2,c.dr,c.sc,c.cm,c.mo,c.ti,c.gr,v,c.L⟩ sl:=by
 have e:∀v:Int,Cf.cells ⟨c.g0,c.g1,c.g2,c.dr,c.sc,c.cm,c.mo,c.ti,c.gr,v,c.L⟩ sl=(sl:: .int .i64 c.g0:: .int .i64 c.g1:: .int .i64 c.g2:: .int .i64 c.dr:: .int .i64 c.sc.st:: .int .i64 c.sc.ln:: .int .i64 c.sc.lg:: .int .i64 c.sc.of::(bytes c.cm++[.int .i64 c.mo,.int .i64 c.ti,.int .i64 c.gr]))++([.int .u64 v]++[]):=fun _=>by simp[Cf.cells,Cf.tl]
 rw[e,e];exact bI (by simp[h]) rfl
theorem last_any(seed:B8):Spc Tryz.prog 21 #[U8 seed] [] [] (Is (.agg (bytes (lastK seed)).toArray)):=by refine Spc.enter Tryz.func21 (h:=?_);refine fun w0 hw0=>?_;refine go 2 ?_;refine RL.alloc (cs:=List.replicate 32 (U8 0#8)) (ho:=rfl) (h:=?_);intro b1;refine go 5 ?_;refine bi (bytes (lastK seed)) (ho:=rfl) (h:=?_);refine an (ho:=rfl) (h1:=bC fh _) (h:=?_);refine go 3 ?_;exact RQ.post (cU rfl rfl KA31.h KS31.h mQ rfl) (aa _) ⟨rfl,rfl,rfl⟩
theorem jm(seed:B8):Spc Tryz.prog 6 #[U8 seed,.slice none 0 0] [] [] (CfR 167 (bL seed)):=by have hl45:∀(c:Cf) (sl:Value),c.cm.length=32→(c.cells sl).length=45:=fun c sl h=>cj h sl;have hcom:=rcom_any (lastK seed) (lastK_len seed) 24;rw[show(24:Int)=((24:Nat):Int) from rfl,com_ok (lastK seed) (show okN ((24:Nat):Int) by unfold okN;omega)] at hcom;refine Spc.enter Tryz.func6 (h:=?_);refine fun w0 hw0=>?_;refine go 8 ?_;intro b1;refine ao [] (ho:=rfl) (h:=?_);intro b2;refine go 3 ?_;refine RL.min (h:=?_);refine av (d:=11) (v':=.int .i64 ((0:Nat):Int)) rfl rfl ?_;refine RL.slice (lo:=0) (hi:=0) (ho:=rfl) (h:=?_);refine cd (news:=[]) KE87.h rfl rfl rfl rfl rfl rfl rfl (by first|exact⟨(.take (ai _)),rfl⟩|exact⟨(.leave (.take (ai _))),rfl⟩|exact⟨(.leave (.leave (.take (ai _)))),rfl⟩|exact⟨(.leave (.leave (.leave (.take (ai _))))),rfl⟩|exact⟨(.leave (.leave (.leave (.leave (.take (ai _)))))),rfl⟩|exact⟨(.leave (.leave (.leave (.leave (.leave (.take (ai _))))))),rfl⟩|exact⟨(.leave (.leave (.leave (.leave (.leave (.leave (.take (ai _)))))))),rfl⟩|exact⟨(.leave (.leave (.leave (.leave (.leave (.leave (.leave (.take (ai _))))))))),rfl⟩|exact⟨(.leave (.leave (.leave (.leave (.leave (.leave (.leave (.leave (.take (ai _)))))))))),rfl⟩|exact⟨(.leave (.leave (.leave (.leave (.leave (.leave (.leave (.leave (.leave (.take (ai _))))))))))),rfl⟩) (by intro _ _;exact⟨rfl,fun _=>rfl,fun a h=>by simp at h⟩) (by simp) (by first|omega|(simp only[maxLen];omega)) (by first|omega|(simp only[maxLen];omega)) ?_;intro ob1 cap1 ho1;refine RL.call (ji seed (ob1.map fun b=>⟨b,0,none⟩) cap1 0 [] rfl (by omega)) (hl:=.own mQ .nil) (hb:=.inl rfl) (h:=?_);rintro _ _ _ ⟨ob,cp,rfl,rfl,rfl⟩;refine go 1 ?_;intro b3;refine an (ho:=rfl) (h1:=ed _ rfl) (hv:=hl45 _ _ rfl) (h:=?_);refine go 6 ?_;refine aj (vs:=[_,_,_,_]) (set_sc (aZ seed []) _ 0 10 2 3) KS29.h rfl rfl rfl rfl rfl rfl rfl rfl uE (by rw[hl45 _ _ rfl];decide) ?_;refine go 5 ?_;refine ab (last_any seed) (h:=?_);refine ab (hcom) (h:=?_);refine go 4 ?_;refine aj (vs:=bytes (cfgK seed)) (set_cm ⟨0,0,42949672960,4194304,⟨0,10,2,3⟩,List.replicate 32 0,5,500,100,64,cK seed [] 6⟩ _ rfl (cC seed)) (by rw[List.length_map,cC];exact KS31.h) rfl rfl rfl rfl rfl rfl rfl (bC fh _) uE (by rw[hl45 _ _ rfl,List.length_map,cC];decide) ?_;refine go 5 ?_;refine aj (vs:=[_]) (set_csd ⟨0,0,42949672960,4194304,⟨0,10,2,3⟩,cfgK seed,5,500,100,64,cK seed [] 6⟩ _ (cC seed) 8) KS32.h rfl rfl rfl rfl rfl rfl rfl rfl uE (by rw[hl45 _ _ (cC seed)];decide) ?_;refine go 1 ?_;refine aj (vs:=[_]) (set_cmo ⟨0,0,42949672960,4194304,⟨0,10,2,3⟩,cfgK seed,5,500,100,8,cK seed [] 6⟩ _ (cC seed) 3) KS3.h rfl rfl rfl rfl rfl rfl rfl rfl uE (by rw[hl45 _ _ (cC seed)];decide) ?_;refine go 1 ?_;refine aj (vs:=[_]) (set_cti ⟨0,0,42949672960,4194304,⟨0,10,2,3⟩,cfgK seed,3,500,100,8,cK seed [] 6⟩ _ (cC seed) 40) KS3.h rfl rfl rfl rfl rfl rfl rfl rfl uE (by rw[hl45 _ _ (cC seed)];decide) ?_;refine go 1 ?_;refine aj (vs:=[_]) (set_cgr ⟨0,0,42949672960,4194304,⟨0,10,2,3⟩,cfgK seed,3,40,100,8,cK seed [] 6⟩ _ (cC seed) 15) KS3.h rfl rfl rfl rfl rfl rfl rfl rfl uE (by rw[hl45 _ _ (cC seed)];decide) ?_;refine go 4 ?_;refine aT (ho:=rfl) (hl:=hl45 _ _ (cC seed)) (h:=?_);refine an (ho:=rfl) (h1:=ed _ rfl) (hv:=hl45 _ _ (cC seed)) (h:=?_);refine go 3 ?_;refine RQ.rea (fun _ h=>h) (H':=[own ob cp 167 48 (bL seed).L.length ((bL seed).L.flatMap Sr.cells),cel b1 ((bL seed).cells (aE ob (bL seed).L.length cp)) 34]) rE ?_;exact RQ.post (cU rfl rfl KA34.h KS34.h mQ (hl45 _ _ (cC seed))) (.keep (aa _)) ⟨ob,cp,rfl,rfl,rfl⟩
def r7(n:Nat):Rdg:= { rz 7 with tick:=n }
theorem r7_ok{n:Nat}(h:n≤1000000):(r7 n).Ok:=⟨rfl,rfl,rfl,rfl,rfl,rfl,rfl,rfl,rfl,rfl,rfl,rfl,rfl,rfl,rfl,by simp only[r7,rz,gi,Lit.wf,IntKind.min,IntKind.max,IntKind.signed,IntKind.bits,Bool.and_eq_true,decide_eq_true_eq,Bool.false_eq_true,if_false];omega,rfl,rfl,rfl,rfl,rfl⟩
theorem r7_got{n:Nat}(h:n≤1000000):bV 7 (beN 8 n)=some (r7 n):=by
 have hl:(beN 8 n).length=8:=aw 8 n
 have e:bH 7 (beN 8 n)=r7 n:=by
  have e1:iH (beN 8 n) 0 8=n:=by rw[iH,List.drop_zero,List.take_of_length_le (by omega),num_beN,Nat.mod_eq_of_lt (by omega)]
  simp[bH,r7,e1]
 have hm:(r7 n).mode.toNat≤2:=by show(0#8).toNat≤2;decide
 rw[bV,e,if_pos ⟨by decide,by decide,hl,hm,by simp⟩]
theorem r7_body(n:Nat):aX (r7 n)=beN 8 n:=by have h:(r7 n).kind=7:=rfl;simp[aX,h];rfl
theorem r7_okP{n:Nat}(h:n≤1000000):okP (r7 n):=⟨r7 n,by rw[r7_body];exact r7_got h,rfl⟩
theorem r7_put{n:Nat}(h:n≤1000000):eJ (r7 n)=beN 8 n∧putE (r7 n)=0:=by have:=put_yes (r7_okP h);exact⟨this.1.trans (r7_body n),this.2⟩
def s5(seed:B8):Sr:=dU seed 5 8
theorem cfg_grd(seed:B8):grd (bL seed) 5=some (s5 seed):=rfl
theorem send7{z:RCr}{seed:B8}{n:Nat}(h:n≤1000000)(hc:z.ct 5<1000):sendE (z.snd (s5 seed)) (r7 n)=0:=by have h1:(z.snd (s5 seed)).ct=z.ct 5:=rfl;rw[sendE,if_pos ⟨(r7_put h).2,by rfl⟩,h1,if_neg (by omega)]
theorem frS_7{z:RCr}{seed:B8}{n:Nat}(h:n≤1000000):(frS (z.snd (s5 seed)) (r7 n)).kd=7∧(frS (z.snd (s5 seed)) (r7 n)).b=beN 8 n:=⟨rfl,(r7_put h).1⟩
def s0(seed:B8):Sr:=dU seed 0 1
theorem grd_0(seed:B8):grd (bL seed) 0=some (s0 seed):=rfl
theorem cfg_hd(seed:B8):(bL seed).L[0]?=some (s0 seed):=rfl
theorem s0_kinds(seed:B8):aH (s0 seed).kd=[1,10]:=rfl
theorem rz1_body:aX (rz 1)=List.replicate 24 0#8:=by simp[aX,rz];decide
theorem rz1_get:bH 1 (List.replicate 24 0#8)=rz 1:=by kernel_rfl
theorem rz1_got:bV 1 (aX (rz 1))=some (rz 1):=by rw[rz1_body,bV,rz1_get,if_pos ⟨by decide,by decide,by decide,by decide,by decide⟩]
theorem rz1_okP:okP (rz 1):=⟨rz 1,rz1_got,rfl⟩
theorem rz1_put:eJ (rz 1)=aX (rz 1)∧putE (rz 1)=0:=put_yes rz1_okP
theorem rz1_ok:(rz 1).Ok:=⟨rfl,rfl,rfl,rfl,rfl,rfl,rfl,rfl,rfl,rfl,rfl,rfl,rfl,rfl,rfl,rfl,rfl,rfl,rfl,rfl,rfl⟩
theorem send1{z:RCr}{seed:B8}(hc:z.ct 0<1000):sendE (z.snd (s0 seed)) (rz 1)=0:=by have h1:(z.snd (s0 seed)).ct=z.ct 0:=rfl;rw[sendE,if_pos ⟨rz1_put.2,by rfl⟩,h1,if_neg (by omega)]
theorem sign_tag(f:Fr)(k:List B8):(f.sign k).tag=d7 (d8 k gK f.ep) f.signed:=rfl
theorem sign_sgn(f:Fr)(k:List B8):(f.sign k).signed=f.signed:=rfl
theorem frS_tag(x:Snd)(r:Rdg):(frS x r).tag=d7 (d8 x.s.rt gK x.ep) (frS x r).signed:=by unfold frS;rw[sign_tag,sign_sgn]
theorem frS_ep(x:Snd)(r:Rdg):(frS x r).ep=x.ep:=rfl
theorem frS_sr(x:Snd)(r:Rdg):(frS x r).sr=x.s.id:=rfl
theorem frS_kd(x:Snd)(r:Rdg):(frS x r).kd=r.kind:=rfl
theorem frS_ct(x:Snd)(r:Rdg):(frS x r).ct=x.ct+1:=rfl
theorem frS_b(x:Snd)(r:Rdg):(frS x r).b=eJ r:=rfl
theorem look_new{g:GSt}{f:Fr}{k:List B8}{o:One}(hl:g.l=g0.l)(hM:g.M=g0.M)(hy:g.Y f.sr f.kd=true)(ho:atO g.T f.sr=some o)(hs:f.sr=0)(he:f.ep=1)(hoe:o.e=1)(hok:o.k=k)(ht:f.tag=d7 (d8 k gK 1) f.signed):di g f 0=0:=by
 have ht0:eM 0=true:=rfl;have hg1:goesB o 1 0=true:=by simp[goesB,hasE,hoe]
 have hk:jd g.T f.sr f.ep 0=(d8 k gK 1,0):=by rw[jd,if_pos ⟨ht0,by rw[hs];rfl⟩,ho,he];dsimp only;rw[if_pos hg1,hok]
 have htg:tagOk g f 0=true:=by rw[tagOk,hk];exact beq_iff_eq.2 ht
 have hkm:gZ g.l f.sr 0=0:=by rw[hl,hs];rfl
 have hmm:iF g.M f.sr (fmark f)=0:=by rw[hM,hs];rfl
 rw[di,if_pos ht0,if_pos hy,if_pos hkm,tagE,hk];dsimp only;rw[if_pos rfl,if_pos htg,if_pos rfl,hmm]
theorem look_snd{g:GSt}{x:Snd}{r:Rdg}{o:One}{k:List B8}(hl:g.l=g0.l)(hM:g.M=g0.M)(hy:g.Y 0 r.kind=true)(ho:atO g.T 0=some o)(hid:x.s.id=0)(hep:x.ep=1)(hoe:o.e=1)(hok:o.k=k)(hxk:x.s.rt=k):di g (frS x r) 0=0:=by have htg:=frS_tag x r;rw[hep,hxk] at htg;exact look_new hl hM (by rw[frS_sr,frS_kd,hid];exact hy) (by rw[frS_sr,hid];exact ho) (by rw[frS_sr,hid]) (by rw[frS_ep,hep]) hoe hok htg
theorem first_look{seed:B8}{g:GSt}{x:Snd}(hg:GF (bL seed) (bL seed).L.length g)(hxs:x.s=s0 seed)(he:x.ep=1):di g (frS x (rz 1)) 0=0:=by obtain⟨⟨b,hb⟩,hy⟩:=hg.f (by rw[cfgC_len];decide) (s0 seed) (cfg_hd seed) (by rw[s0_kinds];decide);have hs0:(s0 seed).id=0:=rfl;have hy1:=hy 1 (by rw[s0_kinds];decide);rw[hs0] at hb hy1;have hk1:(rz 1).kind=1:=rfl;exact look_snd hg.l hg.M (by rw[hk1];exact hy1) hb (by rw[hxs];exact hs0) he rfl rfl (by rw[hxs])
theorem first_res{seed:B8}{rl:List (Value×Value)}(h:RsF (bL seed) rl){z:RCr}(he:z.ep 0=1)(hc:z.ct 0=0):aO (.int .i64 (frS (z.snd (s0 seed)) (rz 1)).sr) rl=some (mkV (1,8))∧gtB ((frS (z.snd (s0 seed)) (rz 1)).ep,(frS (z.snd (s0 seed)) (rz 1)).ct) (1,8)=false:=by rw[frS_sr];refine⟨h (s0 seed) (cfg_hd seed) (by rw[s0_kinds];decide) ⟨of_decide_eq_true rfl,of_decide_eq_true rfl⟩,?_⟩;rw[frS_ep,frS_ct,show(z.snd (s0 seed)).ep=z.ep 0 from rfl,show(z.snd (s0 seed)).ct=z.ct 0 from rfl,he,hc];rfl
noncomputable def rU8:Rdr Tryz.prog 5 B8:=Rdr.u8 (by kernel_rfl) (by kernel_rfl)
noncomputable def rInt:Rdr Tryz.prog 3 Int:=Rdr.int .i64 (by kernel_rfl) (by kernel_rfl)
noncomputable def rBytes:Rdr Tryz.prog 55 (Sl B8):=rU8.slice 1 (by kernel_rfl) (by kernel_rfl) (by kernel_rfl) (by decide) (List.map U8) (flat_one U8)
noncomputable def rKey:Rdr Tryz.prog 31 (List B8):=rU8.array 32 1 (by kernel_rfl) (by kernel_rfl) (by kernel_rfl) (List.map U8) (flat_one U8)
noncomputable def rSmall:Rdr Tryz.prog 49 Int:=Rdr.int .i32 (by kernel_rfl) (by kernel_rfl)
noncomputable def rFix:Rdr Tryz.prog 25 Int:=Rdr.int .i64 (by kernel_rfl) (by kernel_rfl)
noncomputable def rU16:Rdr Tryz.prog 52 Int:=Rdr.int .u16 (by kernel_rfl) (by kernel_rfl)
noncomputable def rU32:Rdr Tryz.prog 51 Int:=Rdr.int .u32 (by kernel_rfl) (by kernel_rfl)
noncomputable def rU64:Rdr Tryz.prog 32 Int:=Rdr.int .u64 (by kernel_rfl) (by kernel_rfl)
noncomputable def rSm3:Rdr Tryz.prog 50 (List Int):=rSmall.array 3 1 (by kernel_rfl) (by kernel_rfl) (by kernel_rfl) (List.map (Value.int .i32)) (flat_one _)
noncomputable def rVec:Rdr Tryz.prog 27 (List Int):=rFix.array 3 1 (by kernel_rfl) (by kernel_rfl) (by kernel_rfl) (List.map (Value.int .i64)) (flat_one _)
theorem of3{l:List Int}(h:l.length=3):∃a b c,l=[a,b,c]:=by
 match l,h with
 | [a,b,c],_=>exact⟨a,b,c,rfl⟩
theorem keyV_of{l:List B8}(h:l.length=32):l.map U8=keyV (fun j=>l.getD j 0):=by
 match l,h with
 | [_,_,_,_,_,_,_,_,_,_,_,_,_,_,_,_,_,_,_,_,_,_,_,_,_,_,_,_,_,_,_,_],_=>rfl
set_option maxRecDepth 100000
noncomputable def rRdg:Rdr Tryz.prog 54 Rdg:=
 Rdr.struct (fs := [Field.mk "Kind" 3 0 false "" "" 0, Field.mk "Gyro" 50 1 false "" "" 8, Field.mk "Accel" 50 4 false "" "" 20, Field.mk "Height" 25 7 false "" "" 32, Field.mk "Heading" 51 8 false "" "" 40, Field.mk "Speed" 49 9 false "" "" 44, Field.mk "Steps" 51 10 false "" "" 48, Field.mk "Interval" 51 11 false "" "" 52, Field.mk "Seq" 5 12 false "" "" 56, Field.mk "Pos" 27 13 false "" "" 64, Field.mk "Key" 31 16 false "" "" 88, Field.mk "Tick" 32 48 false "" "" 120, Field.mk "Mode" 5 49 false "" "" 128, Field.mk "Epoch" 51 50 false "" "" 132, Field.mk "Bound" 25 51 false "" "" 136, Field.mk "Flags" 51 52 false "" "" 144, Field.mk "Source" 5 53 false "" "" 148, Field.mk "State" 5 54 false "" "" 149, Field.mk "Fails" 52 55 false "" "" 150, Field.mk "Counter" 32 56 false "" "" 152].toArray) (tot := 57) (α := Int × List Int × List Int × Int × Int × Int × Int × Int × B8 × List Int × List B8 × Int × B8 × Int × Int × Int × B8 × B8 × Int × Int × Unit)
  (by kernel_rfl) (by kernel_rfl)
  (.cons (k:=1) rInt rfl (by kernel_rfl) (by decide) (.cons (k:=3) rSm3 rfl (by kernel_rfl) (by decide) (.cons (k:=3) rSm3 rfl (by kernel_rfl) (by decide) (.cons (k:=1) rFix rfl (by kernel_rfl) (by decide) (.cons (k:=1) rU32 rfl (by kernel_rfl) (by decide) (.cons (k:=1) rSmall rfl (by kernel_rfl) (by decide) (.cons (k:=1) rU32 rfl (by kernel_rfl) (by decide) (.cons (k:=1) rU32 rfl (by kernel_rfl) (by decide) (.cons (k:=1) rU8 rfl (by kernel_rfl) (by decide) (.cons (k:=3) rVec rfl (by kernel_rfl) (by decide) (.cons (k:=32) rKey rfl (by kernel_rfl) (by decide) (.cons (k:=1) rU64 rfl (by kernel_rfl) (by decide) (.cons (k:=1) rU8 rfl (by kernel_rfl) (by decide) (.cons (k:=1) rU32 rfl (by kernel_rfl) (by decide) (.cons (k:=1) rFix rfl (by kernel_rfl) (by decide) (.cons (k:=1) rU32 rfl (by kernel_rfl) (by decide) (.cons (k:=1) rU8 rfl (by kernel_rfl) (by decide) (.cons (k:=1) rU8 rfl (by kernel_rfl) (by decide) (.cons (k:=1) rU16 rfl (by kernel_rfl) (by decide) (.cons (k:=1) rU64 rfl (by kernel_rfl) (by decide) .nil))))))))))))))))))))
  Rdg.cells (fun _=>[]) Rdg.Ok
  (fun⟨kd,gy,ac,he,hd,sp,st,iv,sq,po,ke,ti,mo,ep,bo,fl,so,sa,fa,co,_⟩ h=>by
   obtain⟨h1,h2,h3,h4,h5,h6,h7,h8,h9,h10,h11,h12,h13,h14,h15,h16,h17,h18,h19,h20,-⟩:=h
   obtain⟨h2,h2'⟩:=h2
   obtain⟨h3,h3'⟩:=h3
   obtain⟨h10,h10'⟩:=h10
   obtain⟨h11,h11'⟩:=h11
   obtain⟨g0,g1,g2,rfl⟩:=of3 h2
   obtain⟨a0,a1,a2,rfl⟩:=of3 h3
   obtain⟨p0,p1,p2,rfl⟩:=of3 h10
   refine⟨⟨kd,g0,g1,g2,a0,a1,a2,he,hd,sp,st,iv,sq,p0,p1,p2,fun j=>ke.getD j 0,ti,mo,ep,bo,fl,so,sa,fa,co⟩,?_,
    ⟨h1,h2' _ (by simp),h2' _ (by simp),h2' _ (by simp),h3' _ (by simp),h3' _ (by simp),h3' _ (by simp),h4,h5,h6,h7,h8,h10' _ (by simp),h10' _ (by simp),h10' _ (by simp),h12,h14,h15,h16,h19,h20⟩,by simp⟩
   show _=[Value.int .i64 kd]++([Value.int .i32 g0,.int .i32 g1,.int .i32 g2]++([Value.int .i32 a0,.int .i32 a1,.int .i32 a2]++([Value.int .i64 he]++([Value.int .u32 hd]++([Value.int .i32 sp]++([Value.int .u32 st]++([Value.int .u32 iv]++([U8 sq]++([Value.int .i64 p0,.int .i64 p1,.int .i64 p2]++(ke.map U8++([Value.int .u64 ti]++([U8 mo]++([Value.int .u32 ep]++([Value.int .i64 bo]++([Value.int .u32 fl]++([U8 so]++([U8 sa]++([Value.int .u16 fa]++([Value.int .u64 co]++[])))))))))))))))))))
   rw[keyV_of h11]
   rfl)
  (fun _ _=>rfl)
theorem cfg_ok(seed:B8):(bL seed).ok=true:=by show Cf.ok ⟨0,0,42949672960,4194304,⟨0,10,2,3⟩,cfgK seed,3,40,15,8,cK seed [] 6⟩=true;generalize cfgK seed=k;rfl
theorem cfg_new(seed:B8):newE (bL seed) (lastK seed) 24=0:=by rw[newE,if_neg (by rw[Cf.err,cfg_ok];decide),if_pos (by decide),if_pos];rfl
structure MadeU(seed:B8)(C:UC)(x:UX):Prop where
 hC:C.Ok
 hx:x.Ok
 n:x.u.now=0
 w:x.nw=0
 g:GF (bL seed) (bL seed).L.length x.g
 r:RsF (bL seed) x.rl
abbrev unB(C:UC)(x:UX):It:=PK.allI (hnI C.B.h none 0 0 0::UL C x)
def MadeR(seed:B8):Value→List It→List It→Prop:=fun v I' H'=>I'=[]∧∃(wb:Nat) (T:List Value) (z:RCr) (oa:Option Nat) (ca:Nat) (C:UC) (x:UX),v=.pointer (some ⟨wb,0,none⟩)∧RNewZ (bL seed) oa ca (lastK seed) 24 z∧MadeU seed C x∧H'=[cel wb (.pointer (some ⟨z.b,0,none⟩):: .pointer (some ⟨C.B.b,0,none⟩)::T) 65,eN z,own oa ca 134 48 (bL seed).L.length ((bL seed).L.flatMap Sr.cells),unB C x]
def wldC(a b d:Value)(l:List Value):List Value:=a::b::d::l
theorem fill_wld{l:List Value}(h:l.length=45)(a b d:Value)(ha:a.cells.toList=[a])(hb:b.cells.toList=[b])(hd:d.cells.toList=[d]){places:Array (Nat×Nat)}(hp:places= #[(0,1),(1,1),(2,1),(3,45)]):bX (places[·]?) (wldC (.pointer none) (.pointer none) (.pointer none) (zcf.cells (.slice none 0 0))) [(0,a),(1,b),(2,d),(3,.agg l.toArray)]=some (wldC a b d l):=by subst hp;have hz:(zcf.cells (.slice none 0 0)).length=45:=rfl;refine aK (vs:=[a]) [] [.pointer none] (.pointer none:: .pointer none::zcf.cells (.slice none 0 0)) rfl ha rfl rfl rfl rfl ?_;refine aK (vs:=[b]) [a] [.pointer none] (.pointer none::zcf.cells (.slice none 0 0)) rfl hb rfl rfl rfl rfl ?_;refine aK (vs:=[d]) [a,b] [.pointer none] (zcf.cells (.slice none 0 0)) rfl hd rfl rfl rfl rfl ?_;refine aK (vs:=l) [a,b,d] (zcf.cells (.slice none 0 0)) [] rfl (cq _) (by simp) rfl hz h ?_;simp[bX,wldC]
theorem made_any(seed:B8)(hb:BtOk (bL seed)):Spc Tryz.prog 9 #[U8 seed,.slice none 0 0] [] [] (MadeR seed):=by
 have hcl:=fun sl=>cj (cC seed) sl (c:=bL seed);have hok:=cfg_ok seed;have hne:=cfg_new seed;have hft:=cfgC_fit seed;have hkl:=lastK_len seed;refine Spc.enter Tryz.func9 (h:=?_);refine fun w0 hw0=>?_;refine go 9 ?_;refine RL.call (jm seed) (hl:=.nil) (hb:=.inr rfl) (h:=?_);rintro _ _ _ ⟨ob,cap,rfl,rfl,rfl⟩;refine go 1 ?_;intro b1;refine an KS34.h rfl rfl rfl rfl rfl rfl rfl (ed _ (by cases ob<;>rfl)) uE (hcl _) rfl ?_;refine go 4 ?_;refine RL.call (bknew_any) (hl:=.nil) (hb:=.inr rfl) (h:=?_);rintro _ _ _ ⟨st,rfl,rfl,rfl⟩;refine go 5 ?_;refine aT (ho:=rfl) (hl:=hcl _) (h:=?_);refine go 1 ?_;refine RL.call (unew_any (bL seed) ob cap st hb hok) (hl:=Lend.own mQ .nil) (hb:=.inr rfl) (h:=?_);rintro _ _ _ ⟨rfl,C,x,sl,hC,ho,hx,hn,hw,hcc,hst,hgf,hrs,rfl,rfl⟩;refine go 8 ?_;rw[List.append_nil,List.append_nil];refine CW.rea (fun _ h=>h) (H':=(hnI C.B.h none 0 0 0::UL C x)++[cel b1 ((bL seed).cells (aE ob (bL seed).L.length cap)) 34,own ob cap 167 48 (bL seed).L.length ((bL seed).L.flatMap Sr.cells)]) rE ?_;refine CW.pack (go 1 ?_);refine aT (ho:=rfl) (hl:=hcl _) (h:=?_);refine RL.call (lplain_any (bL seed) ob cap _ rfl hft.cm (fun s hs=>(hft.L s hs).rt) (by rw[cfgC_len];decide)) Tryz.call30 rfl rfl rfl rfl rfl pE (Lend.own mQ .nil) (.inr rfl) ?_;rintro _ _ _ ⟨oa,ca,rfl,rfl,rfl⟩;refine go 1 ?_;refine ab (last_any seed) (h:=?_);refine RL.call (rNew_any (bL seed) oa ca _ (lastK seed) 24 hft rfl (by rw[cfgC_len];decide) hkl) Tryz.call29 rfl rfl rfl rfl rfl pE (Lend.own mQ .nil) (.inr rfl) ?_;rintro _ _ _ ⟨rfl,h⟩;rcases h with⟨h,-⟩|⟨-,z,rfl,rfl,hz⟩
 ·exact(h hne).elim
 refine go 13 ?_;apply au (d:=31) (dp:=34) (l':=(Sq.of [])) rfl (sK [5,6,7,9] rfl)
 ·intro hb3 K3;refine go 3 ?_;exact K3 _ (.cons rfl (sK [5,6,7,9] rfl))
 ·intro hb3 K3;refine go 3 ?_;exact K3 _ (.cons rfl (sK [5,6,7,9] rfl))
 refine go 10 ?_;refine aT (ho:=rfl) (hl:=hcl _) (h:=?_);refine ay (wldC (.pointer (some ⟨z.b,0,none⟩)) (.pointer (some ⟨C.B.b,0,none⟩)) (.pointer (some ⟨st,0,none⟩)) ((bL seed).cells (aE ob (bL seed).L.length cap))) (ho:=rfl) (hf:=fill_wld (hcl _) _ _ _ rfl rfl rfl rfl) (h:=go 5 ?_);intro b2;refine RQ.rea (fun _ h=>h) (H':=[cel b2 (wldC (.pointer (some ⟨z.b,0,none⟩)) (.pointer (some ⟨C.B.b,0,none⟩)) (.pointer (some ⟨st,0,none⟩)) ((bL seed).cells (aE ob (bL seed).L.length cap))) 65,eN z,own oa ca 134 48 (bL seed).L.length ((bL seed).L.flatMap Sr.cells),unB C x]) rE ?_;exact RQ.post (az rfl rfl) (.keep (.keep (.keep (.keep .nil)))) ⟨rfl,b2,_,z,oa,ca,C,x,rfl,hz,⟨hC,hx,hn,hw,hgf,hrs⟩,rfl⟩
structure ActT where
 d:Int
 so:Int
 n:Int
 ah:Int
 r:Rdg
 by':B8
 raw:Sl B8
def ActT.cells(a:ActT):List Value:=[.int .i64 a.d,.int .i64 a.so,.int .i64 a.n,.int .i64 a.ah]++(a.r.cells++[U8 a.by',.slice a.raw.p a.raw.l.length a.raw.c])
theorem act_len(a:ActT):a.cells.length=63:=rfl
structure TcK(t off:Int)(k:Kp):Prop where
 ok:k.Ok
 de:k.de=3
 ra:k.ra=65536
 tk:k.tk≤t
 near:k.kn=true→k.lo-k.wid t≤off∧off≤k.hi+k.wid t
theorem wid_eq{k:Kp}{t:Int}(hk:k.Ok)(hr:k.ra=65536)(h:k.tk≤t)(ht:t≤1000000):k.wid t=((t-k.tk)*65536+1048575)/1048576:=by
 have h1:=hk.tk;have e:min (max t k.tk) 1099511627776-k.tk=t-k.tk:=by omega
 unfold Kp.wid;rw[e,hr,Int.fdiv_eq_ediv_of_nonneg _ (by decide)];omega
theorem TcK.later{t t' off off':Int}{k:Kp}(h:TcK t off k)(h0:0≤t)(ht:t≤t')(hb:t'≤1000000)(ho:off'=off∨(t+16≤t'∧off-1≤off'∧off'≤off+1)):TcK t' off' k:=by have htk:=h.tk;refine⟨h.ok,h.de,h.ra,by omega,fun hn=>?_⟩;have h1:=h.near hn;rw[wid_eq h.ok h.ra h.tk (by omega)] at h1;rw[wid_eq h.ok h.ra (by omega) hb];rcases ho with rfl|ho<;>omega
theorem TcK.fit{t off d:Int}{k:Kp}{n:Nat}(h:TcK t off k)(hd:0≤d∧d≤3)(hn:(n:Int)=t+off-d)(h0:0≤t)(hb:t≤1000000):fitB k t n:=fun hk=>by
 have h1:=h.near hk
 have h2:=h.de
 have h3:=wid_le h.ok ⟨h0,hb⟩
 omega
theorem TcK.beat{t off d e:Int}{k:Kp}{n:Nat}(h:TcK t off k)(hd:0≤d∧d≤3)(hn:(n:Int)=t+off-d)(h0:0≤t)(hb:t≤100000)(ho: -100000≤off∧off≤100000):TcK t off (kpA k t e n)∧(e=0→(kpA k t e n).kn=true):=by
 have h2:=h.de;have hok:=h.ok;have h3:=hok.lo;have h4:=hok.hi;have hw:=wid_le h.ok ⟨h0,by omega⟩;by_cases he:e=0
 ·rw[kpA,if_pos he];have wz:∀q:Kp,q.Ok→q.ra=65536→q.tk=t→q.wid t=0:=fun q h1 h2 h3=>by rw[wid_eq h1 h2 (by omega) (by omega),h3];omega
  unfold Kp.beat;by_cases hk:k.kn=true
  ·rw[if_pos hk];have h1:=h.near hk;have ok':Kp.Ok { k with kn:=true,lo:=max ((n:Int)-t) (k.lo-k.wid t),hi:=min ((n:Int)-t+k.de) (k.hi+k.wid t),tk:=t,od:=0 }:=⟨hok.de,hok.ra,hok.mo,by dsimp only;omega,by dsimp only;omega,by dsimp only;omega,by dsimp only;omega⟩;refine⟨⟨ok',h.de,h.ra,Int.le_refl _,fun _=>?_⟩,fun _=>rfl⟩;rw[wz _ ok' h.ra rfl];dsimp only;omega
  ·rw[if_neg hk];have ok':Kp.Ok { k with kn:=true,lo:=(n:Int)-t,hi:=(n:Int)-t+k.de,tk:=t,od:=0 }:=⟨hok.de,hok.ra,hok.mo,by dsimp only;omega,by dsimp only;omega,by dsimp only;omega,by dsimp only;omega⟩;refine⟨⟨ok',h.de,h.ra,Int.le_refl _,fun _=>?_⟩,fun _=>rfl⟩;rw[wz _ ok' h.ra rfl];dsimp only;omega
 ·rw[kpA,if_neg he];exact⟨h,fun e'=>(he e').elim⟩
structure TcS where
 i:Nat
 off:Int
 x:UX
 k:Kp
 s:RcS
 z:RCr
 h0:Option Addr
 c0:Nat
 nz:Int
 sm:Int
structure TcI(G:RG)(seed:B8)(zb:Nat)(oa:Option Nat)(ca:Nat)(g:TcS):Prop where
 x:g.x.Ok
 nw:g.x.nw=g.x.u.now
 n0:0≤g.x.u.now
 n:g.x.u.now≤40*g.i
 k:TcK g.x.u.now g.off g.k
 off: -2-(g.i:Int)≤g.off∧g.off≤9+g.i
 rs:RecInv G.m g.s.es g.s.rg
 rl:g.s.es.length≤g.i
 z:g.z.Ok
 zb:g.z.b=zb
 zc:g.z.c=bL seed
 za:g.z.oa=oa
 zk:g.z.ca=ca
 zl:g.z.l.length≤g.i
 ct:g.z.ct 5≤g.i
 i:g.i≤60
def TcH(G:RG)(g:TcS):List It:=[rgI G,hnI G.C.B.h g.h0 g.c0 g.nz g.sm,allI (UL G.C g.x),kpI G.kb g.k,recL G g.s,eN g.z]
theorem plC_setC{Cc C':List Value}(h:C'.length=Cc.length)(sl:Value)(T:List Value):bP (gV Cc sl T) (0+0) C'=gV C' sl T:=bI (A:=[]) rfl h
theorem plC_setT{Cc:List Value}(h:Cc.length=45)(sl:Value)(A C:List Value)(v w:Value)(o:Nat)(ho:o=46+A.length):bP (gV Cc sl (A++([v]++C))) o [w]=gV Cc sl (A++([w]++C)):=by have e:=bI (A:=Cc++([sl]++A)) (B:=[v]) (B':=[w]) (C:=C) (o:=o) (by simp[h,ho];omega) rfl;simpa[gV] using e
theorem tc_plan(seed:B8)(hb:BtOk (bL seed))(zb:Nat):PlOk (bL seed) (plZn,some zb,4) 3 65536 3 64 where
 bt:=hb
 ok:=cfg_ok seed
 de:=by decide
 ra:=by decide
 mo:=by decide
 m0:=by decide
 m1:=by decide
 zl:=by show plZn.L.length≤1000;decide
 ze:=by show Zn.err plZn=0;decide+kernel
 ba:=by
  have h:(bL seed).L.all Sr.bare=true:=rfl
  exact fun s hs=>List.all_eq_true.1 h s hs
theorem tc0{G:RG}{seed:B8}{oa:Option Nat}{ca:Nat}{x:UX}{s:RcS}{z:RCr}(hx:x.Ok)(hxn:x.u.now=0)(hxw:x.nw=0)(hrs:RecInv G.m s.es s.rg)(hes:s.es=[])(hz:RNewZ (bL seed) oa ca (lastK seed) 24 z)(a:Nat)(ha:a<12):TcI G seed z.b oa ca ⟨0,(a:Int)-2,x,⟨3,65536,3,false,0,0,0,0⟩,s,z,none,0,0,0⟩ where
 x:=hx
 nw:=by rw[hxn,hxw]
 n0:=by dsimp only;omega
 n:=by dsimp only;omega
 k:=⟨⟨by dsimp only;decide,by dsimp only;decide,by dsimp only;decide,by dsimp only;decide,by dsimp only;decide,by dsimp only;decide,by dsimp only;decide⟩,rfl,rfl,by dsimp only;omega,fun h=>by cases h⟩
 off:=by dsimp only;omega
 rs:=hrs
 rl:=by dsimp only;rw[hes];exact Nat.le_refl _
 z:=hz.ok
 zb:=rfl
 zc:=hz.cf
 za:=hz.oa
 zk:=hz.ca
 zl:=by dsimp only;rw[hz.l];exact Nat.le_refl _
 ct:=by dsimp only;rw[hz.ct];exact Nat.le_refl _
 i:=by dsimp only;decide
theorem Lies.ownS{ob:Option Nat}{cap sz n:Nat}{e:TypeId}{xs:List Value}:Lies (own ob cap e sz n xs) (sls (ob.map fun b=>⟨b,0,none⟩) sz n xs):=
 ⟨fun _ h=>ia h,fun c hc=>by by_cases hn:n=0<;>cases ob<;>simp_all [PK.sls,PK.own]⟩
theorem rcr_next{z:RCr}(h:z.Ok){f:FrO}(hf:f.f.Fit)(hl:z.l.length<1000)(hc:z.ct 5<1000)(so:Option Nat)(soc:Nat):((z.setC 5 (z.ct 5+1)).put f so soc).Ok:=by
 refine⟨h.cm,h.L,h.n,h.K,h.K1,h.ep,fun i=>?_,fun x hx=>?_,?_⟩
 ·show upN z.ct 5 (z.ct 5+1) i<_;unfold upN;split
  ·omega
  ·exact h.ct i
 ·rcases List.mem_append.1 hx with hx|hx
  ·exact h.l x hx
  ·rw[List.mem_singleton.1 hx];exact hf
 ·show(z.l++[f]).length≤1000;rw[List.length_append,List.length_singleton];omega
theorem clk_says{t off e:Int}{k:Kp}(h:TcK t off k)(hk:e=0→k.kn=true):∃(lo hi:Int) (ok:Bool),clkV k t=.tuple #[.int .i64 lo,.int .i64 hi,.bool ok]∧(e=0→ok=true∧lo≤off∧off≤hi):=by
 unfold clkV;by_cases hn:k.kn=true
 ·rw[if_pos hn];exact⟨_,_,_,rfl,fun _=>⟨rfl,(h.near hn).1,(h.near hn).2⟩⟩
 ·rw[if_neg hn];exact⟨_,_,_,rfl,fun he=>(hn (hk he)).elim⟩
theorem tclocks(seed:B8)(hb:BtOk (bL seed))(hwk:Spc Tryz.prog 4 #[] [] [] (Is (.bool true)))(off0:Int)(p:Option Addr)(c n:Nat)(L:List ActT)(hn:L.length=n):Spc Tryz.prog 3 #[U8 seed,.int .i64 off0,.slice p n c] [sls p 63 n (L.flatMap ActT.cells)] [] (Is (.bool true)):=by
 have hcl:=fun sl=>cj (cC seed) sl (c:=bL seed);have hpl:=fun sl=>cj (c:=aZ seed []) rfl sl;have h50:=fun sl zl de ra mo sz=>eP (hcl sl) zl de ra mo sz;refine Spc.enter Tryz.func3 (h:=?_);refine fun w0 hw0=>?_;refine go 8 ?_;refine ab (hwk) (h:=?_);refine go 9 ?_;refine RL.call (gplain_any seed) (hl:=.nil) (hb:=.inr rfl) (h:=?_);rintro _ _ _ ⟨rfl,ob,cap,zb,zs,rfl,rfl⟩;refine go 1 ?_;intro b1;refine an KS37.h rfl rfl rfl rfl rfl rfl rfl (iI (ed _ (by cases ob<;>rfl)) (some zs) 1 1 _ _ _ _) uE (eP (hpl _) _ _ _ _ _) rfl ?_;refine go 5 ?_;refine RL.call (jm seed) (hl:=.nil) (hb:=.inr rfl) (h:=?_);rintro _ _ _ ⟨o2,c2,rfl,rfl,rfl⟩;refine go 1 ?_;refine aj (cs':=gV ((bL seed).cells (aE o2 (bL seed).L.length c2)) (aE (some zs) 1 1) (iM 20 1000 3 64)) (vs:=(bL seed).cells (aE o2 (bL seed).L.length c2)) (plC_setC ((hcl _).trans (hpl _).symm) _ _) (by rw[hcl];exact KS34.h) rfl rfl rfl rfl rfl rfl rfl (ed _ (by cases o2<;>rfl)) uE (by rw[hcl,eP (hpl _)];simp) ?_;refine go 5 ?_;refine aj (cs':=gV ((bL seed).cells (aE o2 (bL seed).L.length c2)) (aE (some zs) 1 1) (iM 3 1000 3 64)) (vs:=[_]) (plC_setT (hcl _) _ [] _ _ _ _ rfl) (ho:=rfl) (hl:=by simp[gV,hcl]) (h:=?_);refine go 1 ?_;refine aj (cs':=gV ((bL seed).cells (aE o2 (bL seed).L.length c2)) (aE (some zs) 1 1) (iM 3 65536 3 64)) (vs:=[_]) (plC_setT (hcl _) _ [.int .i64 3] _ _ _ _ rfl) (ho:=rfl) (hl:=by simp[gV,hcl]) (h:=?_);refine go 3 ?_;refine aB (A:=[own o2 c2 167 48 (bL seed).L.length ((bL seed).L.flatMap Sr.cells),cel b1 (gV ((bL seed).cells (aE o2 (bL seed).L.length c2)) (aE (some zs) 1 1) (iM 3 65536 3 64)) 37,own (some zs) 1 85 4 1 (znO (plZn,some zb,4)),own (some zb) 4 82 2 4 (plZn.L.flatMap Pt.cells)]) (B:=[own ob cap 167 48 (aZ seed []).L.length ((aZ seed []).L.flatMap Sr.cells)]) (.take (.take (.leave (.take (.take .nil))))) rfl ?_;refine aW (fun J hJ=>?_);refine CW.rea (fun _ h=>h) (H':=[]) rE ?_;have mC:own o2 c2 167 48 (bL seed).L.length ((bL seed).L.flatMap Sr.cells)∈J:=hJ _ (List.Mem.head _);have mP:cel b1 (gV ((bL seed).cells (aE o2 (bL seed).L.length c2)) (aE (some zs) 1 1) (iM 3 65536 3 64)) 37∈J:=hJ _ (List.Mem.tail _ (List.Mem.head _));have mZ:own (some zs) 1 85 4 1 (znO (plZn,some zb,4))∈J:=hJ _ (List.Mem.tail _ (List.Mem.tail _ (List.Mem.head _)));have mQ:own (some zb) 4 82 2 4 (plZn.L.flatMap Pt.cells)∈J:=hJ _ (List.Mem.tail _ (List.Mem.tail _ (List.Mem.tail _ (List.Mem.head _))));have mA:sls p 63 n (L.flatMap ActT.cells)∈J:=hJ _ (List.Mem.tail _ (List.Mem.tail _ (List.Mem.tail _ (List.Mem.tail _ (List.Mem.head _)))));clear hJ;have fA:RdsN J ⟨b1,0,none⟩ 50 (gV ((bL seed).cells (aE o2 (bL seed).L.length c2)) (aE (some zs) 1 1) (iM 3 65536 3 64)):=⟨fun _=>Rds.allI mP,h50 _ _ _ _ _ _⟩;have fO:RdI J ⟨b1,0+0+5+3,none⟩ (.int .i64 3):=⟨fun _=>aD mP rfl⟩;have fD:RdI J ⟨b1,0+46,none⟩ (.int .i64 3):=⟨fun _=>aD mP (plC_at (hcl _) _ _ 1)⟩;refine ae (Sq.of [0,1,2,3,4,5,6,7]) [1,2] [1,2] [0,3,4,5,6,7] (h:=?_);refine go 1 ?_;refine RL.call (bknew_any) (hl:=.nil) (hb:=.inr rfl) (h:=?_);rintro _ _ _ ⟨st,rfl,rfl,rfl⟩;refine RL.call (gnew_any (bL seed) (plZn,some zb,4) 3 65536 3 64 (tc_plan seed hb zb) o2 c2 (some zs) 1 st) (hl:=gx mC (gx mZ (gx mQ .nil))) (hb:=.inr rfl) (h:=?_);rintro _ _ _ ⟨rfl,G,x,s,hG,hx,hxn,hxw,hof,hrs,hes,rfl,rfl⟩;refine go 10 ?_;refine RL.call (made_any seed hb) (hl:=.nil) (hb:=.inr rfl) (h:=?_);rintro _ _ _ ⟨rfl,wb,T0,z,oa,ca,C',x',rfl,hz,-,rfl⟩;have ham:=amongN_lt (x:=off0) (n:=12) (by decide);refine go 9 ?_;apply au (d:=43) (dp:=46) (l':=(Sq.of [])) rfl (sK [1,2,7,8,10] rfl)
 ·intro hb3 K3;refine go 1 ?_;refine bj (hr:=fb KU46.h _) (h:=go 1 ?_);exact K3 _ (.cons rfl (sK [1,2,7,8,10] rfl))
 ·intro hb3 K3;refine go 3 ?_;exact K3 _ (.cons rfl (sK [1,2,7,8,10] rfl))
 refine go 8 ?_;refine ab (among_any off0 12 (by decide) (by decide)) (h:=?_);refine ap rfl (ad (by omega) (by omega)) ?_;refine go 10 ?_;refine aB (A:=[cel wb (.pointer (some ⟨z.b,0,none⟩):: .pointer (some ⟨C'.B.b,0,none⟩)::T0) 65,own oa ca 134 48 (bL seed).L.length ((bL seed).L.flatMap Sr.cells)]) (B:=eN z::unB C' x'::[recL G s,rgI G,allI (UL G.C x),hnI G.C.B.h none 0 0 0,kpI G.kb ⟨3,65536,3,false,0,0,0,0⟩]) (.take (.leave (.take (.leave (.leave (.leave (.leave (.leave (.leave .nil))))))))) rfl (CW.sub (Lies.ownS (ob:=oa) (cap:=ca) (e:=134)) (List.Mem.tail _ (List.Mem.head _)) ?_);refine aW (fun K hK=>?_);have mS:sls (oa.map fun b=>⟨b,0,none⟩) 48 (bL seed).L.length ((bL seed).L.flatMap Sr.cells)∈K:=hK _ (List.Mem.head _);have mW:cel wb (.pointer (some ⟨z.b,0,none⟩):: .pointer (some ⟨C'.B.b,0,none⟩)::T0) 65∈K:=hK _ (List.Mem.tail _ (List.Mem.head _));have hJK:∀y∈J,y∈K:=fun y hy=>hK _ (List.Mem.tail _ (List.Mem.tail _ (List.Mem.tail _ (show _ from by first|exact hy|simpa using hy))));have mP:=hJK _ mP;have mA:=hJK _ mA;clear hK fA fO fD mC mZ mQ;have fO:RdI K ⟨b1,0+0+5+3,none⟩ (.int .i64 3):=⟨fun _=>aD mP rfl⟩;have fD:RdI K ⟨b1,0+46,none⟩ (.int .i64 3):=⟨fun _=>aD mP (plC_at (hcl _) _ _ 1)⟩;have fW:RdI K ⟨wb,0+0,none⟩ (.pointer (some ⟨z.b,0,none⟩)):=⟨fun _=>Rd.celI mW rfl⟩;have hK0:=tc0 (oa:=oa) (ca:=ca) hx hxn hxw hrs hes hz (ja off0 12) ham;refine CW.loop (γ:=TcS) (TcI G seed z.b oa ca) (fun g=>[(1,.int .i64 g.off),(2,.slice p n c),(7,.pointer (some ⟨b1,0,none⟩)),(8,.pointer (some ⟨G.b,0,none⟩)),(10,.pointer (some ⟨wb,0,none⟩)),(11,.int .i64 (g.i:Int))]) (fun _=>K) (TcH G) (fun g=>60-g.i) ⟨0,(ja off0 12:Int)-2,x,⟨3,65536,3,false,0,0,0,0⟩,s,z,none,0,0,0⟩ hK0 (.cons rfl (.cons rfl (.cons rfl (.cons rfl (.cons rfl (.cons rfl .nil)))))) wE ?_;rintro g hg;have hgx:=hg.x;have hgn:=hg.n0;have hgm:=hg.n;have hgi:=hg.i;have hgo:=hg.off;refine aR (p:=p=none→n=0) (fun w hC e=>bf (hC.s.i _ mA) e) (fun hpa=>?_);refine go 8 ?_;apply aL (d:=54) (dp:=57) (l':=(Sq.of [])) rfl (sK [1,2,7,8,10,11] rfl)
 ·intro hb5 K5;refine go 3 ?_;exact K5 _ (.cons rfl (sK [1,2,7,8,10,11] rfl))
 ·intro hb5 K5;refine go 3 ?_;exact K5 _ (.cons rfl (sK [1,2,7,8,10,11] rfl))
 refine go 2 ?_;refine CW.cond rfl (fun hlt=>?_) (fun hlt=>?_)
 ·have hlt:g.i<n∧g.i<60:=by simp at hlt;omega
  obtain⟨aA,rfl⟩:=sls_some hpa (by omega);have hxa:=List.getElem?_eq_getElem (show g.i<L.length by omega);generalize L[g.i]=a at hxa;have fa:RdsN K (aA.add (g.i*63)) 63 a.cells:=⟨fun _=>(Rds.sls mA).part (fun q u hu=>by have hlt:q<63:=(List.getElem?_eq_some_iff.1 hu).1;rw[eL (f:=ActT.cells) (fun a _=>act_len a) hxa hlt];exact hu),act_len a⟩
  have fH:RdI K ((aA.add (g.i*63)).add 3) (.int .i64 a.ah):=⟨fun _=>(fa.1 _).rd (j:=3) rfl⟩;have hm40:a.by'.toNat%40<40:=Nat.mod_lt _ (by decide);refine go 8 ?_;refine aS (j:=g.i) (ho:=rfl) (hlt:=hlt.1) (h:=?_);refine d4 KF57_5.h rfl rfl rfl rfl (RL.load (ho:=rfl) (hr:=(fa.1 _).rd (j:=61) rfl) (h:=go 1 ?_));refine av (d:=65) (v':=.int .i64 (a.by'.toNat:Int)) rfl (ad (by omega) (by have:=a.by'.isLt;omega)) ?_;refine RL.remX (v':=.int .i64 ((a.by'.toNat%40:Nat):Int)) rfl rfl rfl rfl rfl (by decide) (congrArg _ (tmodN _ 40)) ?_;refine ap rfl (ad (by omega) (by omega)) ?_;refine go 10 ?_;generalize a.by'.toNat%40=m at hm40;refine CW.loop (γ:=Nat×UX) (fun q=>q.1≤1+m∧q.2.Ok∧q.2.nw=q.2.u.now∧q.2.u.now=g.x.u.now+q.1) (fun q=>[(1,.int .i64 g.off),(2,.slice (some aA) n c),(7,.pointer (some ⟨b1,0,none⟩)),(8,.pointer (some ⟨G.b,0,none⟩)),(10,.pointer (some ⟨wb,0,none⟩)),(11,.int .i64 (g.i:Int)),(12,.int .i64 (1+(m:Int))),(13,.int .i64 (q.1:Int))]) (fun _=>K) (fun q=>[rgI G,hnI G.C.B.h g.h0 g.c0 g.nz g.sm,allI (UL G.C q.2),kpI G.kb g.k,recL G g.s,eN g.z]) (fun q=>1+m-q.1) (0,g.x) ⟨Nat.zero_le _,hg.x,hg.nw,by simp⟩ (.cons rfl (.cons rfl (.cons rfl (.cons rfl (.cons rfl (.cons rfl (.cons rfl (.cons rfl .nil)))))))) (fun w h=>h) ?_;rintro⟨q,y⟩ ⟨hq,hy,hyw,hyn⟩;dsimp only at hq hy hyw hyn ⊢;refine go 8 ?_;refine CW.cond rfl (fun hlq=>?_) (fun hlq=>?_)
  ·have hlq:q<1+m:=by simp at hlq;omega
   refine go 6 ?_;refine RL.call (gtick_any G y hG hy hyw (by omega)) (hl:=.nil) (hb:=.inr rfl) (h:=?_);rintro _ _ _ ⟨rfl,rfl,y',hy',hyn',hyw',rfl⟩;refine go 5 ?_;refine ap rfl (ad (by omega) (by omega)) ?_;refine go 2 ?_;exact NQ.round (g:=(q,y)) (q+1,y') ⟨hlq,hy',hyw',by rw[hyn',hyn];push_cast;omega⟩ (by dsimp only;omega) (.cons rfl (.cons rfl (.cons rfl (.cons rfl (.cons rfl (.cons rfl (.cons rfl (.cons rfl .nil)))))))) wE
  ·have hqm:q=1+m:=by simp at hlq;omega
   subst hqm;have hdl:=amongN_lt (x:=a.n) (n:=3) (by decide);refine go 10 ?_;refine aS (j:=g.i) (ho:=rfl) (hlt:=hlt.1) (h:=?_);refine d4 KF57_2.h rfl rfl rfl rfl (RL.load (ho:=rfl) (hr:=(fa.1 _).rd (j:=2) rfl) (h:=?_));refine ab (among_any a.n 3 (by decide) (by decide)) (h:=?_);refine ap rfl (ad (by omega) (by omega)) ?_;refine go 3 ?_;refine fQ (γ:=Int) (fun o=>o=g.off∨(15≤m∧g.off-1≤o∧o≤g.off+1)) (fun o=>[(1,.int .i64 o),(2,.slice (some aA) n c),(7,.pointer (some ⟨b1,0,none⟩)),(8,.pointer (some ⟨G.b,0,none⟩)),(10,.pointer (some ⟨wb,0,none⟩)),(11,.int .i64 (g.i:Int))]) (fun _=>K) (fun _=>[rgI G,hnI G.C.B.h g.h0 g.c0 g.nz g.sm,allI (UL G.C y),kpI G.kb g.k,recL G g.s,eN g.z]) ?_ ?_
   ·refine go 6 ?_;refine CW.cond rfl (fun h16=>?_) (fun h16=>?_)
    ·refine go 3 ?_;refine ap rfl (ad (by omega) (by omega)) ?_;refine go 2 ?_;exact aJ (g.off+((ja a.n 3:Int)-1)) (.inr (by simp at h16;omega)) (.cons rfl (.cons rfl (.cons rfl (.cons rfl (.cons rfl (.cons rfl .nil)))))) (fun w h=>h)
    ·refine go 1 ?_;exact aJ g.off (.inl rfl) (.cons rfl (.cons rfl (.cons rfl (.cons rfl (.cons rfl (.cons rfl .nil)))))) (fun w h=>h)
   ·rintro o ho;have hyb:y.u.now≤40*(g.i+1):=by omega
    have hy0:0≤y.u.now:=by omega
    have hkn:TcK y.u.now o g.k:=hg.k.later hgn (by omega) (by omega) (by omega);have hof3:G.c 8=.int .i64 3:=hof;have hgs:=gsure_any G y g.k 3 hkn.ok ⟨hy0,by omega⟩ hof3 (by decide);have hS:(g.k.kn&&(decide (0-3≤g.k.lo-g.k.wid y.u.now)&&decide (g.k.hi+g.k.wid y.u.now≤3)))=true→ -3≤o∧o≤3:=fun h=>by simp only[Bool.and_eq_true,decide_eq_true_eq] at h;have:=hkn.near h.1;omega
    generalize (g.k.kn&&(decide (0-3≤g.k.lo-g.k.wid y.u.now)&&decide (g.k.hi+g.k.wid y.u.now≤3)))=bS at hgs hS;refine go 3 ?_
    have hcnd:(bS&&(decide (o>3)||decide (o<IntKind.i64.wrap (0-3))))=false:=by
     cases bS with
     | false=>rfl
     | true=>
      have h:=hS rfl;have e:IntKind.i64.wrap (0-3)= -3:=by decide
      rw[e];simp<;>omega
    have hnext:∀(k':Kp) (s':RcS) (z':RCr) (y':UX) (h0:Option Addr) (c0:Nat),TcK y.u.now o k'→RecInv G.m s'.es s'.rg→s'.es.length≤g.s.es.length+1→z'.Ok→z'.b=z.b→z'.c=bL seed→z'.oa=oa→z'.ca=ca→z'.l.length≤g.i+1→z'.ct 5≤g.i+1→y'.Ok→y'.nw=y'.u.now→y'.u.now=y.u.now→TcI G seed z.b oa ca ⟨g.i+1,o,y',k',s',z',h0,c0,g.nz,g.sm⟩:=fun k' s' z' y' h0 c0 e1 e2 e3 e4 e5 e6 e7 e8 e9 e10 e11 e12 e13=>⟨e11,e12,by dsimp only;omega,by dsimp only;push_cast;omega,by dsimp only;rw[e13];exact e1,by dsimp only;push_cast;omega,e2,by have:=hg.rl;dsimp only;omega,e4,e5,e6,e7,e8,e9,e10,by dsimp only;omega⟩;have had:=amongN_lt (x:=a.ah) (n:=4) (by decide);have hob: -63≤o∧o≤70:=by omega
    refine ar (gunit_any G) (hl:=Lend.inH (x:=rgI G) mQ .nil) (h:=?_);refine ar (gP G.C.B y.u) (hl:=iE (x:=allI (UL G.C y)) (dm (List.Mem.head _)) mQ .nil) (h:=?_);refine go 7 ?_;refine ar (hgs) (hl:=Lend.inH (x:=rgI G) mQ (Lend.inH (x:=allI (UL G.C y)) mQ (Lend.inH (x:=kpI G.kb g.k) mQ .nil))) (h:=?_);refine go 1 ?_;apply aL (d:=92) (dp:=108) (l':=(Sq.of [])) rfl (sK [1,2,7,8,10,11,15] rfl)
    ·intro hb3 K3;refine go 7 ?_;apply au (d:=99) (dp:=107) (l':=(Sq.of [18])) rfl (sK [1,2,7,8,10,11,15,92] rfl)
     ·intro hb10 K10;refine go 5 ?_;refine RL.neg rfl rfl rfl rfl (go 2 ?_);exact K10 _ (.cons rfl (sK [1,2,7,8,10,11,15,92] rfl))
     ·intro hb10 K10;refine go 8 ?_;exact K10 _ (.cons rfl (sK [1,2,7,8,10,11,15,92] rfl))
     refine go 1 ?_;exact K3 _ (.cons rfl (sK [1,2,7,8,10,11,15] rfl))
    ·intro hb3 K3;refine go 16 ?_;exact K3 _ (.cons rfl (sK [1,2,7,8,10,11,15] rfl))
    refine go 2 ?_;refine ag rfl (hcnd) (go 3 ?_);refine ae (Sq.of [0,1,2,3,4,5,6,7,8,9,10,11,12,13]) [] [] [0,1,2,3,4,5,6,7,8,9,10,11,12,13] (h:=?_);refine go 2 ?_;refine ap rfl (ad (by omega) (by omega)) ?_;refine go 2 ?_;refine aS (j:=g.i) (ho:=rfl) (hlt:=hlt.1) (h:=?_);refine d4 KF57_3.h rfl rfl rfl rfl (go 3 ?_);refine ap rfl (ad (by omega) (by omega)) ?_;refine cr (among_any a.ah 4 (by decide) (by decide)) (h:=?_);refine ap rfl (ad (by omega) (by omega)) ?_;refine go 10 ?_;refine CW.cond rfl (fun hneg=>?_) (fun hneg=>?_)
    ·refine go 6 ?_;refine ap rfl (ad (by omega) (by omega)) ?_;refine go 2 ?_;exact NQ.round (g:=g) ⟨g.i+1,o,y,g.k,g.s,g.z,g.h0,g.c0,g.nz,g.sm⟩ (hnext g.k g.s g.z y g.h0 g.c0 hkn hg.rs (by omega) hg.z hg.zb hg.zc hg.za hg.zk (by have:=hg.zl;omega) (by have:=hg.ct;omega) hy hyw rfl) (by dsimp only;omega) (.cons rfl (.cons rfl (.cons rfl (.cons rfl (.cons rfl (.cons rfl .nil)))))) (fun w h=>h)
    ·obtain⟨N,hN⟩:∃N:Nat,y.u.now+o-(ja a.ah 4:Int)=(N:Int):=⟨(y.u.now+o-(ja a.ah 4:Int)).toNat,by simp at hneg;omega⟩;rw[hN];have hNb:N≤1000000:=by omega
     have mS':rcrS g.z∈K:=by show sls (g.z.oa.map fun b=>⟨b,0,none⟩) 48 g.z.c.L.length (g.z.c.L.flatMap Sr.cells)∈K;rw[hg.za,hg.zc];exact mS
     have hsd:=rSend_any g.z 5 (r7 N) (r7_ok hNb) hg.z (by have:=hg.zl;omega);rw[hg.zb] at hsd;refine go 10 ?_;refine av (d:=130) (v':=.int .u64 (N:Int)) rfl (by rw[u64_id N (by omega)]) ?_;refine ay (r7 N).cells (ho:=rfl) (h:=?_);refine RL.call (hsd) (hl:=.inI mS' .nil) (hb:=.inr rfl) (h:=?_);rintro v I' H' hR;rcases hR with⟨hg5,-⟩|⟨s',hg5,hR⟩
     ·rw[hg.zc,cfg_grd] at hg5;cases hg5
     obtain rfl:s5 seed=s':=by rw[hg.zc,cfg_grd] at hg5;exact Option.some.inj hg5
     rcases hR with⟨hk,-⟩|⟨-,rfl,⟨hne,-⟩|⟨hse,rb,rc,bo,bc,so,soc,rfl,rfl⟩⟩
     ·exact absurd hk (by show¬((7:Int)=10);decide)
     ·exact(hne (send7 hNb (by have:=hg.ct;omega))).elim
     have hff:(frS (g.z.snd (s5 seed)) (r7 N)).Fit:=frS_fit (by show 0≤(5:Int)∧(5:Int)≤7;decide) (hg.z.ep _) (hg.z.ct _) hse;obtain⟨hfk,hfb⟩:=frS_7 (z:=g.z) (seed:=seed) hNb;obtain⟨z',hz'⟩:∃z',(g.z.setC (s5 seed).id.toNat (g.z.ct (s5 seed).id.toNat+1)).put ⟨frS (g.z.snd (s5 seed)) (r7 N),bo,bc⟩ so soc=z':=⟨_,rfl⟩;rw[hz'];have hzo:z'.Ok:=by rw[←hz'];exact rcr_next hg.z hff (by have:=hg.zl;omega) (by have:=hg.ct;omega) so soc
     have hzb:z'.b=z.b:=by rw[←hz'];exact hg.zb
     have hzc:z'.c=bL seed:=by rw[←hz'];exact hg.zc
     have hza:z'.oa=oa:=by rw[←hz'];exact hg.za
     have hzk:z'.ca=ca:=by rw[←hz'];exact hg.zk
     have hzl:z'.l.length≤g.i+1:=by rw[←hz'];show(g.z.l++[_]).length≤_;have:=hg.zl;rw[List.length_append,List.length_singleton];omega
     have hzt:z'.ct 5≤g.i+1:=by rw[←hz'];show upN g.z.ct 5 (g.z.ct 5+1) 5≤_;have:=hg.ct;unfold upN;rw[if_pos rfl];omega
     generalize frS (g.z.snd (s5 seed)) (r7 N)=f at hff hfk hfb hz' ⊢;have hgot:∀r,bV 7 f.b=some r→r.tick=(N:Int)∧N≤1000000:=fun r hr=>by rw[hfb,r7_got hNb] at hr;cases hr;exact⟨rfl,hNb⟩
     refine go 11 ?_;refine RL.call (gbytes_any G y f g.k N g.s g.h0 g.c0 g.nz g.sm (rb.map fun b=>⟨b,0,none⟩) rc _ hG hy (by omega) hff hfk rfl hg.rs (by have:=hg.rl;omega) hkn.ok hkn.tk hgot (hkn.fit ⟨by omega,by omega⟩ hN.symm hy0 (by omega))) Tryz.call16 rfl rfl rfl rfl rfl pE (Lend.own mQ .nil) (.inr rfl) ?_;rintro _ _ _ ⟨e,r,y2,eo,ec,p',c',s',rfl,rfl,hy2,hyn2,hyw2,hrs2,hrl2,rfl⟩;refine go 13 ?_;apply au (d:=143) (dp:=147) (l':=(Sq.of [])) rfl (sK [1,2,7,8,10,11,19] rfl)
     ·intro hb3 K3;refine go 4 ?_;exact K3 _ (.cons rfl (sK [1,2,7,8,10,11,19] rfl))
     ·intro hb3 K3;refine go 4 ?_;exact K3 _ (.cons rfl (sK [1,2,7,8,10,11,19] rfl))
     refine go 3 ?_;refine aR (p:=eo=none→False) (fun w hC=>fun e'=>by subst e';have:=dW (hC.s.h (own none ec 73 62 1 (evC f e r)) mQ);omega) (fun hob=>?_)
     cases eo with
     | none=>exact(hob rfl).elim
     | some eb=>
     obtain⟨hk1,hk2⟩:=hkn.beat (e:=e) ⟨by omega,by omega⟩ hN.symm hy0 (by omega) (by omega);generalize kpA g.k y.u.now e N=k' at hk1 hk2 ⊢;have hgc:=gclock_any G y2 k' hk1.ok ⟨by omega,by omega⟩;rw[hyn2] at hgc;obtain⟨lo,hi,ok,hcv,hco⟩:=clk_says hk1 hk2;rw[hcv] at hgc
     have hlast:(e==0&&(!ok||decide (o<lo)||decide (o>hi)))=false:=by
      by_cases he:e=0
      ·obtain⟨rfl,h2,h3⟩:=hco he;rw[decide_eq_false (by omega),decide_eq_false (by omega)];simp
      ·simp[he]
     refine go 5 ?_;refine ar (hgc) (hl:=Lend.inH (x:=rgI G) mQ (Lend.inH (x:=allI (UL G.C y2)) mQ (Lend.inH (x:=kpI G.kb k') mQ .nil))) (h:=?_);refine go 12 ?_;refine aP (j:=0) (ho:=rfl) (hlt:=by decide) (h:=?_);refine go 1 ?_;refine RL.load (ho:=rfl) (hr:=by rw[←bn];exact(Rds.own (b:=eb) (cap:=ec) (e:=73) (sz:=62) (n:=1) (xs:=evC f e r) mQ).rd (j:=0*62+4) rfl) (h:=?_);refine go 2 ?_;apply aL (d:=159) (dp:=172) (l':=(Sq.of [])) rfl (sK [1,2,7,8,10,11] rfl)
     ·intro hb6 K6;refine go 3 ?_;apply au (d:=162) (dp:=166) (l':=(Sq.of [13,14,15,16,17,18])) rfl (sK [1,2,7,8,10,11,22,159] rfl)
      ·intro hb9 K9;refine go 4 ?_;exact K9 _ (.cons rfl (sK [1,2,7,8,10,11,22,159] rfl))
      ·intro hb9 K9;refine go 4 ?_;exact K9 _ (.cons rfl (sK [1,2,7,8,10,11,22,159] rfl))
      refine go 1 ?_;apply au (d:=167) (dp:=171) (l':=(Sq.of [18])) rfl (sK [1,2,7,8,10,11,159] rfl)
      ·intro hb14 K14;refine go 4 ?_;exact K14 _ (.cons rfl (sK [1,2,7,8,10,11,159] rfl))
      ·intro hb14 K14;refine go 4 ?_;exact K14 _ (.cons rfl (sK [1,2,7,8,10,11,159] rfl))
      refine go 1 ?_;exact K6 _ (.cons rfl (sK [1,2,7,8,10,11] rfl))
     ·intro hb6 K6;refine go 13 ?_;exact K6 _ (.cons rfl (sK [1,2,7,8,10,11] rfl))
     refine go 2 ?_;refine ag rfl (hlast) (go 5 ?_);refine ap rfl (ad (by omega) (by omega)) ?_;refine go 2 ?_;exact NQ.round (g:=g) ⟨g.i+1,o,y2,k',s',z',p',c',g.nz,g.sm⟩ (hnext k' s' z' y2 p' c' hk1 hrs2 hrl2 hzo hzb hzc hza hzk hzl hzt hy2 (by rw[hyw2,hyn2];exact hyw) hyn2) (by dsimp only;omega) (.cons rfl (.cons rfl (.cons rfl (.cons rfl (.cons rfl (.cons rfl .nil)))))) wE
 ·refine go 11 ?_;exact RQ.post (az rfl rfl) (aa _) ⟨rfl,rfl,rfl⟩
def trA(a:Ad)(b:Nat):Trk:=⟨a.src,a.kd,a.w,a.g,a.st,a.lm,a.hz,b⟩
def nvA(g0 g1 g2 dr:Int):List Value:=[.int .i64 g0,.int .i64 g1,.int .i64 g2,.int .i64 0,.int .i64 0,.int .i64 0,.int .i64 0,.int .i64 0,.int .i64 0,.int .i64 dr,.int .i64 4294967296,.int .i64 0,.int .i64 0,.int .i64 0,.int .i64 4294967296,.int .i64 0,.int .i64 0,.int .i64 0,.int .i64 4294967296,.int .i64 0]
def NNwR(g0 g1 g2 dr:Int)(L:List Ad):Value→List It→List It→Prop:=fun v I' H'=>I'=[]∧∃nb mp TL,(∀t∈TL,∃a∈L,t=trA a t.b)∧v=.tuple #[.pointer (some ⟨nb,0,none⟩),.int .i64 0]∧H'=[gY nb (nvA g0 g1 g2 dr) mp 0,aN mp aF (fj TL),allI (TL.map iL)]
theorem trC_absent{TL:List Trk}{k:Int}(h:∀t∈TL,t.id≠k):aO (.int .i64 k) (fj TL)=none:=by
 induction TL with
 | nil=>rfl
 | cons t l ih=>have h1: ¬(t.id=k):=h t (List.mem_cons_self ..);have:=ih (fun x hx=>h x (List.mem_cons_of_mem _ hx));simp only[fj,List.map_cons,aO] at this ⊢;rw[if_neg (by simp;omega)];exact this
theorem setV_last{k v v':Value}:∀ {c:List (Value×Value)},aO k c=none→cD k v (c++[(k,v')])=c++[(k,v)]
 | [],_=>by simp[cD]
 | (k',u)::c,h=>by
  by_cases hk:k=k'
  ·rw[aO,if_pos hk] at h;cases h
  ·rw[aO,if_neg hk] at h
   rw[List.cons_append,cD,if_neg hk,setV_last h];rfl
theorem trC_set2{TL:List Trk}{t:Trk}(h:∀x∈TL,x.id≠t.id)(v:Value):cD (.int .i64 t.id) (.pointer (some ⟨t.b,0,none⟩)) (cD (.int .i64 t.id) v (fj TL))=fj (TL++[t]):=by rw[gd (trC_absent h),setV_last (trC_absent h),fj,fj,List.map_append];rfl
theorem ip{w0 w:World}{S:List Nat}{I:List It}{TL:List Trk}{t:Trk}{X Y:It}(h:Cls w0 S I [iL t,X,Y,allI (TL.map iL)] w):Cls w0 S I [X,Y,allI ((TL++[t]).map iL)] w:=by
 have h2:Cls w0 S I (allI (TL.map iL)::[iL t,X,Y]) w:=h.rea (fun _ h=>h) rE;have h4:Cls w0 S I (((TL++[t]).map iL)++[X,Y]) w:=by rw[List.map_append,List.append_assoc];exact h2.unpack
 exact h4.pack.rea (fun _ h=>h) rE
theorem nnew_yes(g0 g1 g2 dr:Int)(oa:Option Nat)(ca n:Nat)(L:List Ad)(hn:L.length=n)(h1:0≤dr∧L.length≤8)(h3:adsB L=true):Spc Tryz.prog 100 #[.agg #[.int .i64 g0,.int .i64 g1,.int .i64 g2,.int .i64 dr,aE oa n ca]] [sls (oa.map fun b=>⟨b,0,none⟩) 7 n (L.flatMap Ad.cells)] [] (NNwR g0 g1 g2 dr L):=by
 have hst:=adsB_iff.1 h3;subst hn;refine Spc.enter Tryz.func100 (h:=?_);refine fun w0 hw0=>?_;refine go 9 ?_;intro b1;refine bv rfl ?_;simp only[List.cons_append,List.nil_append];generalize hJ:([cel b1 [.int .i64 g0,.int .i64 g1,.int .i64 g2,.int .i64 dr,aE oa L.length ca] 237,sls (oa.map fun b=>⟨b,0,none⟩) 7 L.length (L.flatMap Ad.cells)]:List It)=J;have m1:cel b1 [.int .i64 g0,.int .i64 g1,.int .i64 g2,.int .i64 dr,aE oa L.length ca] 237∈J:=by rw[←hJ];exact mQ
 have m2:sls (oa.map fun b=>⟨b,0,none⟩) 7 L.length (L.flatMap Ad.cells)∈J:=by rw[←hJ];exact mQ
 clear hJ
 have fG:RdsN J ⟨b1,0+0,none⟩ 3 [.int .i64 g0,.int .i64 g1,.int .i64 g2]:=aV m1 (fun j u hj=>by
  match j,hj with
  | 0,hj=>exact hj
  | 1,hj=>exact hj
  | 2,hj=>exact hj
  | j+3,hj=>simp at hj) rfl
 have fD:RdI J ⟨b1,0+3,none⟩ (.int .i64 dr):=⟨fun _=>Rd.celI m1 rfl⟩;have fS:RdI J ⟨b1,0+4,none⟩ (aE oa L.length ca):=⟨fun _=>Rd.celI m1 rfl⟩;refine go 5 ?_;apply au (d:=11) (dp:=16) (l':=(Sq.of [])) rfl (sK [1,2,3] rfl)
 ·intro hb4 K4;refine go 5 ?_;exact K4 _ (.cons rfl (sK [1,2,3] rfl))
 ·intro hb4 K4;refine go 5 ?_;exact K4 _ (.cons rfl (sK [1,2,3] rfl))
 refine go 2 ?_;refine ag rfl ((by simp;omega)) ?_;refine go 3 ?_;refine ae (Sq.of [0,1,2,3,4,5,6,7,8]) [5,7] [] [0,1,2,3,4,6,8] (h:=?_);refine go 4 ?_;refine cr (att_any) (h:=?_);refine RL.makeMap (good:=aF) (h:=?_);refine fun mp=>?_;refine ay (nvC (nvA g0 g1 g2 dr) mp 0) (ho:=rfl) (h:=go 19 ?_);intro b2;refine CW.rea (fun _ h=>h) (H':=[]++[gY b2 (nvA g0 g1 g2 dr) mp 0,aN mp aF []]) rE ?_;refine CW.pack ?_;clear fG fD fS m1;refine CW.loop (γ:=Nat×List Trk) (fun g=>g.1≤L.length∧(∀t∈g.2,(∃a∈L,t=trA a t.b)∧t.id≤wasA L g.1)) (fun g=>[(4,.pointer (some ⟨b2,0,none⟩)),(5,.int .i64 (wasA L g.1)),(26,aE oa L.length ca),(27,.int .i64 (L.length:Int)),(28,.int .i64 (g.1:Int))]) (fun _=>J) (fun g=>[gY b2 (nvA g0 g1 g2 dr) mp 0,aN mp aF (fj g.2),allI (g.2.map iL)]) (fun g=>L.length-g.1) (0,[]) ⟨Nat.zero_le _,fun t h=>by cases h⟩ (.cons rfl (.cons rfl (.cons rfl (.cons rfl (.cons rfl .nil))))) wE ?_;rintro⟨i,TL⟩ ⟨hi,hok⟩;dsimp only at hi hok ⊢;refine aR (p:=oa=none→L.length=0) (fun w hC e=>bf (hC.s.i _ m2) (by rw[e];rfl)) (fun hpa=>?_);refine go 6 ?_;refine CW.cond rfl (fun hlt=>?_) (fun hlt=>?_)
 ·have hlt:i<L.length:=by simp at hlt;omega
  cases oa with
  | none=>exact absurd (hpa rfl) (by omega)
  | some ba=>
  have hx:=List.getElem?_eq_getElem hlt;have hxm:=List.getElem_mem hlt;generalize L[i]=a at hx hxm;have fA:RdsN J ⟨ba,0+i*7,none⟩ 7 [.int .i64 a.src,.int .i64 a.kd,.int .i64 a.w,.int .i64 a.g,.int .i64 a.st,.int .i64 a.lm,.int .i64 a.hz]:=dK (f:=Ad.cells) m2 hx (fun _ _=>rfl);have hs:=hst i;rw[stepA_at hx] at hs;have hs:a.ok=true∧wasA L i<a.src:=by simpa using hs
  have hw:=wasA_at hx;have hnew:∀x∈TL,x.id≠a.src:=fun x hx=>by have:=(hok x hx).2;omega
  refine go 6 ?_;refine aP (j:=i) (ho:=rfl) (hlt:=hlt) (h:=go 9 ?_);intro b3;refine ab (aright_any a) (h:=?_);refine go 2 ?_;apply au (d:=35) (dp:=40) (l':=(Sq.of [])) rfl (sK [4,5,7,26,27,28] rfl)
  ·intro hb4 K4;refine go 5 ?_;exact K4 _ (.cons rfl (sK [4,5,7,26,27,28] rfl))
  ·intro hb4 K4;refine go 5 ?_;exact K4 _ (.cons rfl (sK [4,5,7,26,27,28] rfl))
  refine go 2 ?_;refine ag rfl ((by rw[hs.1];simp;omega)) ?_;refine go 2 ?_;refine CW.cutN (γ:=List Trk) (fun T'=>∀t∈T',(∃a∈L,t=trA a t.b)∧t.id≤a.src) (fun _=>[(4,.pointer (some ⟨b2,0,none⟩)),(5,.int .i64 a.src),(26,aE (some ba) L.length ca),(27,.int .i64 (L.length:Int)),(28,.int .i64 (i:Int))]) (fun _=>J) (fun T'=>[gY b2 (nvA g0 g1 g2 dr) mp 0,aN mp aF (fj T'),allI (T'.map iL)]) ?_ ?_
  ·have hset:∀(b:Nat) (v:Value),cD (.int .i64 a.src) (.pointer (some ⟨b,0,none⟩)) (cD (.int .i64 a.src) v (fj TL))=fj (TL++[trA a b]):=fun b v=>trC_set2 (t:=trA a b) hnew v
   have hall:∀b:Nat,∀t∈TL++[trA a b],(∃a∈L,t=trA a t.b)∧t.id≤a.src:=fun b t ht=>by
    rcases List.mem_append.1 ht with ht|ht
    ·exact⟨(hok t ht).1,by have:=(hok t ht).2;omega⟩
    ·rw[List.mem_singleton.1 ht];exact⟨⟨a,hxm,rfl⟩,Int.le_refl _⟩
   refine ae (.cons 0 (.cons 1 (.cons 2 (.cons 3 (.cons 4 (.cons 5 (.cons 9 (.fork [6,10,11] (fun k=>(bif Nat.beq k 6 then(.cons 7 (.fork [8,10,11] (fun k=>(bif Nat.beq k 8 then(.fork [10,11] (fun k=>(bif Nat.beq k 10 then(Sq.of [11,12,13,14]) else(.cons 12 (.fork [10,13] (fun k=>(bif Nat.beq k 10 then(Sq.of [13,14]) else(Sq.of [10,14])))))))) else(bif Nat.beq k 10 then(.fork [8,11] (fun k=>(bif Nat.beq k 8 then(Sq.of [11,12,13,14]) else(Sq.of [12,8,13,14])))) else(.cons 12 (.fork [8,10] (fun k=>(bif Nat.beq k 8 then(.fork [10,13] (fun k=>(bif Nat.beq k 10 then(Sq.of [13,14]) else(Sq.of [10,14])))) else(Sq.of [8,13,14])))))))))) else(bif Nat.beq k 10 then(.fork [6,11] (fun k=>(bif Nat.beq k 6 then(.cons 7 (.fork [8,11] (fun k=>(bif Nat.beq k 8 then(Sq.of [11,12,13,14]) else(Sq.of [12,8,13,14]))))) else(Sq.of [6,7,12,8,13,14])))) else(.cons 6 (.cons 7 (.cons 12 (.fork [8,10] (fun k=>(bif Nat.beq k 8 then(.fork [10,13] (fun k=>(bif Nat.beq k 10 then(Sq.of [13,14]) else(Sq.of [10,14])))) else(Sq.of [8,13,14])))))))))))))))))) [8,11,13] [11,13] [0,1,2,4,7,9,12,14] (h:=?_);refine go 7 ?_;refine RL.fork ⟨?_,?_,?_,trivial⟩
   ·refine go 2 ?_;refine RL.fork ⟨?_,?_,?_,trivial⟩
    ·refine go 1 ?_;intro b4;refine RL.fork ⟨?_,?_,trivial⟩
     ·refine go 1 ?_;refine RL.mapEntry (key:=.int .i64 a.src) keyI KU276.h KZ279.h rfl rfl rfl rfl rfl rfl rfl ⟨a.src,rfl⟩ mQ (fun st=>⟨_,uE,?_⟩);refine go 1 ?_;refine RL.entryStore (h:=?_);refine go 2 ?_;exact aJ (TL++[trA a b4]) (hall b4) (.cons rfl (.cons rfl (.cons rfl (.cons rfl (.cons rfl .nil))))) (fun w h=>ip (t:=trA a b4) (by rw[←hset b4 ((aO (.int .i64 a.src) (fj TL)).getD (.pointer none))];exact h.rea (fun _ h=>h) rE))
     ·refine RL.mapEntry (key:=.int .i64 a.src) keyI KU276.h KZ279.h rfl rfl rfl rfl rfl rfl rfl ⟨a.src,rfl⟩ mQ (fun st=>⟨_,uE,?_⟩);refine go 1 ?_;refine RL.fork ⟨?_,?_,trivial⟩
      ·refine go 1 ?_;refine RL.entryStore (h:=?_);refine go 2 ?_;exact aJ (TL++[trA a b4]) (hall b4) (.cons rfl (.cons rfl (.cons rfl (.cons rfl (.cons rfl .nil))))) (fun w h=>ip (t:=trA a b4) (by rw[←hset b4 ((aO (.int .i64 a.src) (fj TL)).getD (.pointer none))];exact h.rea (fun _ h=>h) rE))
      ·refine RL.entryStore (h:=?_);refine go 3 ?_;exact aJ (TL++[trA a b4]) (hall b4) (.cons rfl (.cons rfl (.cons rfl (.cons rfl (.cons rfl .nil))))) (fun w h=>ip (t:=trA a b4) (by rw[←hset b4 ((aO (.int .i64 a.src) (fj TL)).getD (.pointer none))];exact h.rea (fun _ h=>h) rE))
    ·refine go 1 ?_;refine RL.fork ⟨?_,?_,trivial⟩
     ·refine go 1 ?_;intro b4;refine RL.mapEntry (key:=.int .i64 a.src) keyI KU276.h KZ279.h rfl rfl rfl rfl rfl rfl rfl ⟨a.src,rfl⟩ mQ (fun st=>⟨_,uE,?_⟩);refine go 1 ?_;refine RL.entryStore (h:=?_);refine go 2 ?_;exact aJ (TL++[trA a b4]) (hall b4) (.cons rfl (.cons rfl (.cons rfl (.cons rfl (.cons rfl .nil))))) (fun w h=>ip (t:=trA a b4) (by rw[←hset b4 ((aO (.int .i64 a.src) (fj TL)).getD (.pointer none))];exact h.rea (fun _ h=>h) rE))
     ·refine RL.mapEntry (key:=.int .i64 a.src) keyI KU276.h KZ279.h rfl rfl rfl rfl rfl rfl rfl ⟨a.src,rfl⟩ mQ (fun st=>⟨_,uE,?_⟩);refine go 2 ?_;intro b4;refine RL.entryStore (h:=?_);refine go 2 ?_;exact aJ (TL++[trA a b4]) (hall b4) (.cons rfl (.cons rfl (.cons rfl (.cons rfl (.cons rfl .nil))))) (fun w h=>ip (t:=trA a b4) (by rw[←hset b4 ((aO (.int .i64 a.src) (fj TL)).getD (.pointer none))];exact h.rea (fun _ h=>h) rE))
    ·refine RL.mapEntry (key:=.int .i64 a.src) keyI KU276.h KZ279.h rfl rfl rfl rfl rfl rfl rfl ⟨a.src,rfl⟩ mQ (fun st=>⟨_,uE,?_⟩);refine go 1 ?_;refine RL.fork ⟨?_,?_,trivial⟩
     ·refine go 1 ?_;intro b4;refine RL.fork ⟨?_,?_,trivial⟩
      ·refine go 1 ?_;refine RL.entryStore (h:=?_);refine go 2 ?_;exact aJ (TL++[trA a b4]) (hall b4) (.cons rfl (.cons rfl (.cons rfl (.cons rfl (.cons rfl .nil))))) (fun w h=>ip (t:=trA a b4) (by rw[←hset b4 ((aO (.int .i64 a.src) (fj TL)).getD (.pointer none))];exact h.rea (fun _ h=>h) rE))
      ·refine RL.entryStore (h:=?_);refine go 3 ?_;exact aJ (TL++[trA a b4]) (hall b4) (.cons rfl (.cons rfl (.cons rfl (.cons rfl (.cons rfl .nil))))) (fun w h=>ip (t:=trA a b4) (by rw[←hset b4 ((aO (.int .i64 a.src) (fj TL)).getD (.pointer none))];exact h.rea (fun _ h=>h) rE))
     ·refine go 2 ?_;intro b4;refine RL.entryStore (h:=?_);refine go 2 ?_;exact aJ (TL++[trA a b4]) (hall b4) (.cons rfl (.cons rfl (.cons rfl (.cons rfl (.cons rfl .nil))))) (fun w h=>ip (t:=trA a b4) (by rw[←hset b4 ((aO (.int .i64 a.src) (fj TL)).getD (.pointer none))];exact h.rea (fun _ h=>h) rE))
   ·refine go 1 ?_;refine RL.fork ⟨?_,?_,trivial⟩
    ·refine go 2 ?_;refine RL.fork ⟨?_,?_,trivial⟩
     ·refine go 1 ?_;intro b4;refine RL.mapEntry (key:=.int .i64 a.src) keyI KU276.h KZ279.h rfl rfl rfl rfl rfl rfl rfl ⟨a.src,rfl⟩ mQ (fun st=>⟨_,uE,?_⟩);refine go 1 ?_;refine RL.entryStore (h:=?_);refine go 2 ?_;exact aJ (TL++[trA a b4]) (hall b4) (.cons rfl (.cons rfl (.cons rfl (.cons rfl (.cons rfl .nil))))) (fun w h=>ip (t:=trA a b4) (by rw[←hset b4 ((aO (.int .i64 a.src) (fj TL)).getD (.pointer none))];exact h.rea (fun _ h=>h) rE))
     ·refine RL.mapEntry (key:=.int .i64 a.src) keyI KU276.h KZ279.h rfl rfl rfl rfl rfl rfl rfl ⟨a.src,rfl⟩ mQ (fun st=>⟨_,uE,?_⟩);refine go 2 ?_;intro b4;refine RL.entryStore (h:=?_);refine go 2 ?_;exact aJ (TL++[trA a b4]) (hall b4) (.cons rfl (.cons rfl (.cons rfl (.cons rfl (.cons rfl .nil))))) (fun w h=>ip (t:=trA a b4) (by rw[←hset b4 ((aO (.int .i64 a.src) (fj TL)).getD (.pointer none))];exact h.rea (fun _ h=>h) rE))
    ·refine RL.mapEntry (key:=.int .i64 a.src) keyI KU276.h KZ279.h rfl rfl rfl rfl rfl rfl rfl ⟨a.src,rfl⟩ mQ (fun st=>⟨_,uE,?_⟩);refine go 4 ?_;intro b4;refine RL.entryStore (h:=?_);refine go 2 ?_;exact aJ (TL++[trA a b4]) (hall b4) (.cons rfl (.cons rfl (.cons rfl (.cons rfl (.cons rfl .nil))))) (fun w h=>ip (t:=trA a b4) (by rw[←hset b4 ((aO (.int .i64 a.src) (fj TL)).getD (.pointer none))];exact h.rea (fun _ h=>h) rE))
   ·refine RL.mapEntry (key:=.int .i64 a.src) keyI KU276.h KZ279.h rfl rfl rfl rfl rfl rfl rfl ⟨a.src,rfl⟩ mQ (fun st=>⟨_,uE,?_⟩);refine go 3 ?_;refine RL.fork ⟨?_,?_,trivial⟩
    ·refine go 1 ?_;intro b4;refine RL.fork ⟨?_,?_,trivial⟩
     ·refine go 1 ?_;refine RL.entryStore (h:=?_);refine go 2 ?_;exact aJ (TL++[trA a b4]) (hall b4) (.cons rfl (.cons rfl (.cons rfl (.cons rfl (.cons rfl .nil))))) (fun w h=>ip (t:=trA a b4) (by rw[←hset b4 ((aO (.int .i64 a.src) (fj TL)).getD (.pointer none))];exact h.rea (fun _ h=>h) rE))
     ·refine RL.entryStore (h:=?_);refine go 3 ?_;exact aJ (TL++[trA a b4]) (hall b4) (.cons rfl (.cons rfl (.cons rfl (.cons rfl (.cons rfl .nil))))) (fun w h=>ip (t:=trA a b4) (by rw[←hset b4 ((aO (.int .i64 a.src) (fj TL)).getD (.pointer none))];exact h.rea (fun _ h=>h) rE))
    ·refine go 2 ?_;intro b4;refine RL.entryStore (h:=?_);refine go 2 ?_;exact aJ (TL++[trA a b4]) (hall b4) (.cons rfl (.cons rfl (.cons rfl (.cons rfl (.cons rfl .nil))))) (fun w h=>ip (t:=trA a b4) (by rw[←hset b4 ((aO (.int .i64 a.src) (fj TL)).getD (.pointer none))];exact h.rea (fun _ h=>h) rE))
  rintro T' hT';dsimp only;refine go 3 ?_;refine ap rfl (ad (by omega) (by omega)) ?_;refine go 2 ?_;refine NQ.round (g:=(i,TL)) (i+1,T') ⟨hlt,fun t ht=>?_⟩ (by show L.length-(i+1)<L.length-i;omega) (.cons rfl (.cons (by rw[hw];rfl) (.cons rfl (.cons rfl (.cons rfl .nil))))) wE;rw[hw];exact hT' t ht
 ·have hin:i=L.length:=by simp at hlt;omega
  refine go 13 ?_;exact RQ.post (bb rfl rfl rfl) (.keep (.keep (.keep .nil))) ⟨rfl,b2,mp,TL,fun t ht=>(hok t ht).1,rfl,rfl⟩
theorem wbare_yes(n:Nat)(h:n≤9223372036854775807):Spc Tryz.prog 425 #[.int .i64 n] [] [] (Is (.int .u64 n)):=by refine Spc.enter Tryz.func425 (h:=?_);refine fun w0 hw0=>?_;refine go 12 ?_;refine ag rfl ((by simp)) ?_;refine go 10 ?_;exact RQ.post (az rfl rfl) (aa _) ⟨by rw[u64_id n (by omega)],rfl,rfl⟩
theorem wprod_0(c:Nat)(hc:c=0∨c=4294967296):Spc Tryz.prog 424 #[.int .u64 0,.int .u64 c] [] [] (Is (.agg #[.int .i64 0,.int .u64 0])):=by
 rcases hc with rfl|rfl
 ·refine Spc.enter Tryz.func424 (h:=?_);refine fun w0 hw0=>?_;refine go 8 ?_;intro b1;refine RL.shr 32 (h:=?_);refine go 9 ?_;refine RL.shr 32 (h:=?_);refine go 14 ?_;refine RL.shr 32 (h:=?_);refine go 21 ?_;refine RL.shr 32 (h:=?_);refine go 2 ?_;refine RL.shr 32 (h:=?_);refine go 3 ?_;refine RL.shl 32 (hn:=rfl) (h:=?_);refine go 10 ?_;exact RQ.post (iO rfl rfl KA512.h (vs:=[_,_]) KS512.h (Rds.cel (List.Mem.head _) (am ⟨rfl,rfl,trivial⟩))) (aa _) ⟨by kernel_rfl,rfl,rfl⟩
 ·refine Spc.enter Tryz.func424 (h:=?_);refine fun w0 hw0=>?_;refine go 8 ?_;intro b1;refine RL.shr 32 (h:=?_);refine go 9 ?_;refine RL.shr 32 (h:=?_);refine go 14 ?_;refine RL.shr 32 (h:=?_);refine go 21 ?_;refine RL.shr 32 (h:=?_);refine go 2 ?_;refine RL.shr 32 (h:=?_);refine go 3 ?_;refine RL.shl 32 (hn:=rfl) (h:=?_);refine go 10 ?_;exact RQ.post (iO rfl rfl KA512.h (vs:=[_,_]) KS512.h (Rds.cel (List.Mem.head _) (am ⟨rfl,rfl,trivial⟩))) (aa _) ⟨by kernel_rfl,rfl,rfl⟩
theorem wmul_0(c:Nat)(hc:c=0∨c=4294967296):Spc Tryz.prog 362 #[.int .i64 0,.int .i64 c] [] [] (Is (.agg #[.int .i64 0,.int .u64 0])):=by have h0:=wbare_yes 0 (by decide);have h1:=wbare_yes c (by omega);refine Spc.enter Tryz.func362 (h:=?_);refine fun w0 hw0=>?_;refine go 8 ?_;intro b1;refine ab h0 (h:=?_);refine go 1 ?_;refine ab h1 (h:=?_);refine ab (wprod_0 c hc) (h:=?_);refine go 11 ?_;intro b2;refine bj (hr:=neq_bool KU4.h _ _) (h:=go 2 ?_);refine ag rfl ((by simp)) ?_;refine go 4 ?_;refine ak (vs:=[_,_]) KA512.h KS512.h rfl rfl rfl rfl (by first|(apply Rds.cel;(solve|(repeat (first|exact List.Mem.head _|apply List.Mem.tail)));exact am ⟨rfl,rfl,trivial⟩)|(apply Rds.celI;(solve|(repeat (first|exact List.Mem.head _|apply List.Mem.tail)));exact am ⟨rfl,rfl,trivial⟩)|assumption|(apply aU;assumption)) ?_;refine go 4 ?_;exact RQ.post (cU (vs:=[_,_]) rfl rfl KA512.h KS512.h mQ rfl) (aa _) ⟨rfl,rfl,rfl⟩
theorem wright_31:Spc Tryz.prog 461 #[.agg #[.int .i64 0,.int .u64 0],.int .i64 31] [] [] (Is (.agg #[.int .i64 0,.int .u64 0])):=by refine Spc.enter Tryz.func461 (h:=?_);refine fun w0 hw0=>?_;refine go 10 ?_;intro b1 b2;refine RL.max (h:=?_);refine RL.min (h:=go 11 ?_);refine ag rfl ((by decide)) ?_;refine go 4 ?_;refine ae (Sq.of [0,1,2,3,4,5,6,7,8,9,10,11,12,13,14,15,16]) [16] [16] [0,2,3,4,6,7,8,10,11,12,13,14,15] (h:=?_);refine go 3 ?_;refine RL.shr 31 (hn:=by decide) (h:=?_);refine go 3 ?_;refine RL.shr 31 (hn:=by decide) (h:=?_);refine go 5 ?_;refine RL.shl (64-31) (hn:=by decide) (h:=?_);refine go 6 ?_;exact RQ.post (cU (vs:=[_,_]) rfl rfl KA512.h KS512.h mQ rfl) (aa _) ⟨by kernel_rfl,rfl,rfl⟩
theorem wright_32:Spc Tryz.prog 461 #[.agg #[.int .i64 0,.int .u64 0],.int .i64 32] [] [] (Is (.agg #[.int .i64 0,.int .u64 0])):=by refine Spc.enter Tryz.func461 (h:=?_);refine fun w0 hw0=>?_;refine go 10 ?_;intro b1 b2;refine RL.max (h:=?_);refine RL.min (h:=go 11 ?_);refine ag rfl ((by decide)) ?_;refine go 4 ?_;refine ae (Sq.of [0,1,2,3,4,5,6,7,8,9,10,11,12,13,14,15,16]) [16] [16] [0,2,3,4,6,7,8,10,11,12,13,14,15] (h:=?_);refine go 3 ?_;refine RL.shr 32 (hn:=by decide) (h:=?_);refine go 3 ?_;refine RL.shr 32 (hn:=by decide) (h:=?_);refine go 5 ?_;refine RL.shl (64-32) (hn:=by decide) (h:=?_);refine go 6 ?_;exact RQ.post (cU (vs:=[_,_]) rfl rfl KA512.h KS512.h mQ rfl) (aa _) ⟨by kernel_rfl,rfl,rfl⟩
theorem wnear_0:Spc Tryz.prog 423 #[.agg #[.int .i64 0,.int .u64 0],.int .i64 32] [] [] (Is (.agg #[.int .i64 0,.int .u64 0])):=by have h3:=wideAdd 0 0 (by decide) (by decide);rw[show W 0=.agg #[.int .i64 0,.int .u64 0] from by kernel_rfl] at h3;refine Spc.enter Tryz.func423 (h:=?_);refine fun w0 hw0=>?_;refine go 9 ?_;intro b1 b2;refine RL.min (h:=go 10 ?_);refine ag rfl ((by decide)) ?_;refine go 3 ?_;refine ae (Sq.of [0,1,3,4,5,2,6,7,8,9,10,11]) [2,6,11] [11] [1,4,5,7,8,9] (h:=?_);refine ak (vs:=[_,_]) KA512.h KS512.h rfl rfl rfl rfl (by first|(apply Rds.cel;(solve|(repeat (first|exact List.Mem.head _|apply List.Mem.tail)));exact am ⟨rfl,rfl,trivial⟩)|(apply Rds.celI;(solve|(repeat (first|exact List.Mem.head _|apply List.Mem.tail)));exact am ⟨rfl,rfl,trivial⟩)|assumption|(apply aU;assumption)) ?_;refine go 1 ?_;refine ak (vs:=[_,_]) KA512.h KS512.h rfl rfl rfl rfl (by first|(apply Rds.cel;(solve|(repeat (first|exact List.Mem.head _|apply List.Mem.tail)));exact am ⟨rfl,rfl,trivial⟩)|(apply Rds.celI;(solve|(repeat (first|exact List.Mem.head _|apply List.Mem.tail)));exact am ⟨rfl,rfl,trivial⟩)|assumption|(apply aU;assumption)) ?_;refine go 2 ?_;refine ab wright_32 (h:=?_);refine ab wright_31 (h:=?_);refine RL.field (v:=.int .u64 0) (fun w=>by simp[Instr.field,asAgg,Program.fieldsOf,Go.part,go_sem]) rfl rfl rfl rfl ?_;refine go 2 ?_;refine ab (h3) (h:=?_);refine go 4 ?_;exact RQ.post (cU (vs:=[_,_]) rfl rfl KA512.h KS512.h mQ rfl) (aa _) ⟨by kernel_rfl,rfl,rfl⟩
theorem vprod_0(c:Nat)(hc:c=0∨c=4294967296):Spc Tryz.prog 356 #[.int .i64 0,.int .i64 c] [] [] (Is (.agg #[.int .i64 0,.int .u64 0])):=by refine Spc.enter Tryz.func356 (h:=?_);refine fun w0 hw0=>?_;refine go 9 ?_;intro b1;refine ab (wmul_0 c hc) (h:=?_);refine ab (wnear_0) (h:=?_);refine go 4 ?_;exact RQ.post (cU (vs:=[_,_]) rfl rfl KA512.h KS512.h mQ rfl) (aa _) ⟨rfl,rfl,rfl⟩
theorem vclip_0:Spc Tryz.prog 357 #[.agg #[.int .i64 0,.int .u64 0]] [] [] (Is (.tuple #[.int .i64 0,.bool false])):=by have h3:=wideClip 0 (by decide) (by decide);rw[show W 0=.agg #[.int .i64 0,.int .u64 0] from by kernel_rfl,show(Value.tuple #[.int .i64 (i0 0),.bool (cut 0)])=.tuple #[.int .i64 0,.bool false] from by kernel_rfl] at h3;refine Spc.enter Tryz.func357 (h:=?_);refine fun w0 hw0=>?_;refine go 9 ?_;intro b1;refine ak (vs:=[_,_]) KA512.h KS512.h rfl rfl rfl rfl (by first|(apply Rds.cel;(solve|(repeat (first|exact List.Mem.head _|apply List.Mem.tail)));exact am ⟨rfl,rfl,trivial⟩)|(apply Rds.celI;(solve|(repeat (first|exact List.Mem.head _|apply List.Mem.tail)));exact am ⟨rfl,rfl,trivial⟩)|assumption|(apply aU;assumption)) ?_;refine ab (h3) (h:=?_);refine go 16 ?_;exact RQ.post (bb rfl rfl rfl) (aa _) ⟨rfl,rfl,rfl⟩
theorem vdot_0(c0 c1 c2:Nat)(h0:c0=0∨c0=4294967296)(h1:c1=0∨c1=4294967296)(h2:c2=0∨c2=4294967296):Spc Tryz.prog 281 #[.agg #[.int .i64 0,.int .i64 0,.int .i64 0],.agg #[.int .i64 c0,.int .i64 c1,.int .i64 c2]] [] [] (Is (.tuple #[.int .i64 0,.bool false])):=by
 have h3:=wideAdd 0 0 (by decide) (by decide);rw[show W 0=.agg #[.int .i64 0,.int .u64 0] from by kernel_rfl,show W (0+0)=.agg #[.int .i64 0,.int .u64 0] from by kernel_rfl] at h3
 have hcc:∀i,i<3→∃d:Nat,(d=0∨d=4294967296)∧([.int .i64 c0,.int .i64 c1,.int .i64 c2]:List Value)[i]?=some (.int .i64 (d:Int))∧([.int .i64 0,.int .i64 0,.int .i64 0]:List Value)[i]?=some (.int .i64 0):=fun i hi=>by
  rcases i with _|_|_|i
  ·exact⟨c0,h0,rfl,rfl⟩
  ·exact⟨c1,h1,rfl,rfl⟩
  ·exact⟨c2,h2,rfl,rfl⟩
  ·omega
 refine Spc.enter Tryz.func281 (h:=?_);refine fun w0 hw0=>?_;refine go 20 ?_;intro b1 b2 b3;refine aB (A:=[cel b2 [.int .i64 c0,.int .i64 c1,.int .i64 c2] 27,cel b1 [.int .i64 0,.int .i64 0,.int .i64 0] 27]) (B:=[cel b3 [.int .i64 0,.int .u64 0] 512]) (.leave (.take (.take .nil))) rfl ?_;refine aW (fun J hJ=>?_);have m2:cel b2 [.int .i64 c0,.int .i64 c1,.int .i64 c2] 27∈J:=hJ _ (List.Mem.head _);have m1:cel b1 [.int .i64 0,.int .i64 0,.int .i64 0] 27∈J:=hJ _ (List.Mem.tail _ (List.Mem.head _));clear hJ;refine CW.loop (γ:=Nat) (fun i=>i≤3) (fun i=>[(2,.pointer (some ⟨b1,0,none⟩)),(3,.pointer (some ⟨b2,0,none⟩)),(6,.pointer (some ⟨b3,0,none⟩)),(8,.int .i64 (i:Int))]) (fun _=>J) (fun _=>[cel b3 [.int .i64 0,.int .u64 0] 512]) (fun i=>3-i) 0 (by omega) (.cons rfl (.cons rfl (.cons rfl (.cons rfl .nil)))) (fun w h=>h) ?_;intro i hi;refine go 6 ?_;refine CW.cond rfl (fun hlt=>?_) (fun hlt=>?_)
 ·have hlt:i<3:=by simp at hlt;omega
  obtain⟨d,hd,hdv,hzv⟩:=hcc i hlt;have f1:RdI J ⟨b1,0+i*1,none⟩ (.int .i64 0):=⟨fun _=>aD m1 (by rw[show 0+i*1=i by omega];exact hzv)⟩;have f2:RdI J ⟨b2,0+i*1,none⟩ (.int .i64 (d:Int)):=⟨fun _=>aD m2 (by rw[show 0+i*1=i by omega];exact hdv)⟩;refine go 10 ?_;refine ae (Sq.of [0,1,2,3,4,5,6,7,8,9]) [9] [9] [1,2,3,4,5,6,7,8] (h:=?_);first|refine aT KA512.h KS512.h rfl rfl rfl rfl (by(solve|(repeat (first|exact List.Mem.head _|apply List.Mem.tail)))) lQ ?_|refine RL.loadWI KA512.h KS512.h rfl rfl rfl rfl (by(solve|(repeat (first|exact List.Mem.head _|apply List.Mem.tail)))) lQ ?_
  refine go 1 ?_;refine al (j:=i) (ho:=rfl) (hlt:=hlt) (h:=go 2 ?_);refine al (j:=i) (ho:=rfl) (hlt:=hlt) (h:=go 1 ?_);refine cr (vprod_0 d hd) (h:=?_);refine cr (h3) (h:=?_);refine go 5 ?_;refine ap rfl (ad (by omega) (by omega)) ?_;refine go 2 ?_;exact NQ.round (g:=i) (i+1) hlt (by show 3-(i+1)<3-i;omega) (.cons rfl (.cons rfl (.cons rfl (.cons rfl .nil)))) wE
 ·refine go 8 ?_;refine ab (vclip_0) (h:=?_);refine go 7 ?_;exact RQ.post (bb rfl rfl rfl) (aa _) ⟨rfl,rfl,rfl⟩
def backM(i j:Nat):List Value:=(List.range 9).map fun p=>.int .i64 (if p%4=0∧(p/4<i∨(p/4=i∧p/4<j)) then 4294967296 else 0)
def rowN(i q:Nat):Int:=if q=i then 4294967296 else 0
def rowM(i:Nat):List Value:=(List.range 3).map fun q=>.int .i64 (rowN i q)
theorem row_ext{i:Nat}(h:i<3):(gl 3).toArray.extract (i*3) (i*3+3)=(rowM i).toArray:=by
 rcases i with _|_|_|i
 ·rfl
 ·rfl
 ·rfl
 ·omega
theorem row_at{i j:Nat}(h:j<3):(rowM i).toArray[j*1]?=some (.int .i64 (rowN i j)):=by
 rcases j with _|_|_|j
 ·rfl
 ·rfl
 ·rfl
 ·omega
theorem back_set{i j:Nat}(hi:i<3)(hj:j<3):bP (backM i j) (0+j*3+i*1) [.int .i64 (rowN i j)]=backM i (j+1):=by rcases i with _|_|_|i<;>rcases j with _|_|_|j<;>first|rfl|omega
theorem back_row{i:Nat}(hi:i<3):backM i 3=backM (i+1) 0:=by rcases i with _|_|_|i<;>first|rfl|omega
theorem mback_1:Spc Tryz.prog 358 #[.agg (gl 3).toArray] [] [] (Is (.agg (gl 3).toArray)):=by
 refine Spc.enter Tryz.func358 (h:=?_);refine fun w0 hw0=>?_;refine go 19 ?_;intro b1 b2 b3;refine CW.loop (γ:=Nat) (fun i=>i≤3) (fun i=>[(2,.pointer (some ⟨b2,0,none⟩)),(3,.pointer (some ⟨b3,0,none⟩)),(8,.agg (gl 3).toArray),(9,.int .i64 (i:Int))]) (fun _=>[]) (fun i=>[cel b3 (backM i 0) 273,cel b2 (backM 0 0) 273]) (fun i=>3-i) 0 (s:=.cons rfl (.cons rfl (.cons rfl (.cons rfl .nil)))) (round:=?_);intro i hi;refine go 6 ?_;refine CW.cond rfl (fun hlt=>?_) (fun hlt=>?_)
 ·have hlt:i<3:=by simp at hlt;omega
  refine go 7 ?_;refine RL.indexAgg (j:=i) (vs:=(rowM i).toArray) KU273.h KS27.h KA27.h rfl rfl rfl rfl rfl rfl hlt (row_ext hlt) (go 2 ?_);intro b4;refine an (vs:=rowM i) (ho:=rfl) (h:=?_);refine go 4 ?_;refine aT (vs:=rowM i) (ho:=rfl) (hl:=rfl) (h:=?_);refine go 4 ?_;refine CW.loop (γ:=Nat) (fun j=>j≤3) (fun j=>[(2,.pointer (some ⟨b2,0,none⟩)),(3,.pointer (some ⟨b3,0,none⟩)),(4,.int .i64 (i:Int)),(8,.agg (gl 3).toArray),(9,.int .i64 (i:Int)),(13,.agg (rowM i).toArray),(14,.int .i64 (j:Int))]) (fun _=>[]) (fun j=>[cel b3 (backM i j) 273,cel b2 (backM 0 0) 273]) (fun j=>3-j) 0 (s:=.cons rfl (.cons rfl (.cons rfl (.cons rfl (.cons rfl (.cons rfl (.cons rfl .nil))))))) (round:=?_);intro j hj;refine go 6 ?_;refine CW.cond rfl (fun hlj=>?_) (fun hlj=>?_)
  ·have hlj:j<3:=by simp at hlj;omega
   refine go 7 ?_;refine RL.index (j:=j) (v:=.int .i64 (rowN i j)) KU27.h KS25.h KA25.h rfl rfl rfl rfl rfl rfl hlj (row_at hlj) (go 8 ?_);refine al (j:=j) (ho:=rfl) (hlt:=hlj) (h:=?_);refine al (j:=i) (ho:=rfl) (hlt:=hlt) (h:=?_);refine aj (cs':=backM i (j+1)) (vs:=[_]) (back_set hlt hlj) (ho:=rfl) (hl:=by show 0+j*3+i*1+1≤9;omega) (h:=?_);refine go 4 ?_;refine ap rfl (ad (by omega) (by omega)) ?_;refine go 2 ?_;exact NQ.round (g:=j) (j+1) hlj (by show 3-(j+1)<3-j;omega) (.cons rfl (.cons rfl (.cons rfl (.cons rfl (.cons rfl (.cons rfl (.cons rfl .nil))))))) wE
  ·have hj3:j=3:=by simp at hlj;omega
   subst hj3;rw[back_row hlt];refine go 7 ?_;refine ap rfl (ad (by omega) (by omega)) ?_;refine go 2 ?_;exact NQ.round (g:=i) (i+1) hlt (by show 3-(i+1)<3-i;omega) (.cons rfl (.cons rfl (.cons rfl (.cons rfl .nil)))) wE
 ·have hin:i=3:=by simp at hlt;omega
  subst hin;refine go 7 ?_;refine aT (vs:=backM 3 0) (ho:=rfl) (hl:=rfl) (h:=?_);refine an (vs:=backM 3 0) (ho:=rfl) (h:=?_);refine go 3 ?_;exact RQ.post (cU (vs:=backM 3 0) rfl rfl KA273.h KS273.h mQ rfl) (aa _) ⟨rfl,rfl,rfl⟩
def attN:List Value:=[.int .i64 4294967296,.int .i64 0,.int .i64 0,.int .i64 0,.int .i64 4294967296,.int .i64 0,.int .i64 0,.int .i64 0,.int .i64 4294967296,.int .i64 0]
theorem atow_1:Spc Tryz.prog 282 #[.agg attN.toArray,.int .i64 0] [] [] (Is (.agg #[.int .i64 4294967296,.int .i64 0,.int .i64 0])):=by
 refine Spc.enter Tryz.func282 (h:=?_);refine fun w0 hw0=>?_;refine go 12 ?_;intro b1 b2;apply au (d:=7) (dp:=10) (l':=(Sq.of [])) rfl (sK [1,2,4] rfl)
 ·intro hb3 K3;refine go 3 ?_;exact K3 _ (.cons rfl (sK [1,2,4] rfl))
 ·intro hb3 K3;refine go 3 ?_;exact K3 _ (.cons rfl (sK [1,2,4] rfl))
 refine go 8 ?_;refine ak (vs:=gl 3) KA273.h KS273.h rfl rfl rfl rfl (Rds.cel mQ (am (by repeat (first|exact trivial|refine⟨rfl,?_⟩)))) ?_;refine ab (mback_1) (h:=?_);refine go 1 ?_;refine RL.indexAgg (j:=0) (vs:= #[.int .i64 4294967296,.int .i64 0,.int .i64 0]) KU273.h KS27.h KA27.h rfl rfl rfl rfl rfl rfl (by decide) rfl ?_;refine go 4 ?_;exact RQ.post (cU (vs:=[_,_,_]) rfl rfl KA27.h KS27.h mQ rfl) (aa _) ⟨rfl,rfl,rfl⟩
theorem nv_cut{A:List Value}(h:A.length=20)(mp:Nat)(nw:Int):bP (nvC A mp nw) (0+24) [.bool false]=nvC A mp nw:=by have e:=bI (A:=A++[.map (some mp),.int .i64 (-1),.int .i64 0,.int .i64 nw]) (B:=[.bool false]) (B':=[.bool false]) (C:=[]) (o:=0+24) (by simp[h]) rfl;simpa[nvC] using e
theorem sidx_f(b c:Nat):Spc Tryz.prog 360 #[.slice (some ⟨b,0,none⟩) 1 c,.bool true] [sls (some ⟨b,0,none⟩) 1 1 [.bool false]] [] (Is (.int .i64 (-1))):=by
 refine Spc.enter Tryz.func360 (h:=?_);refine fun w0 hw0=>?_;refine go 14 ?_;refine CW.loop (γ:=Nat) (fun i=>i≤1) (fun i=>[(0,.slice (some ⟨b,0,none⟩) 1 c),(1,.bool true),(7,.int .i64 1),(8,.int .i64 (i:Int))]) (fun _=>[sls (some ⟨b,0,none⟩) 1 1 [.bool false]]) (fun _=>[]) (fun i=>1-i) 0 (by omega) (.cons rfl (.cons rfl (.cons rfl (.cons rfl .nil)))) (fun w h=>h) ?_;intro i hi;refine go 6 ?_;refine CW.cond rfl (fun hlt=>?_) (fun hlt=>?_)
 ·have hi0:i=0:=by simp at hlt;omega
  subst hi0;refine go 15 ?_;refine aP (j:=0) (ho:=rfl) (hlt:=by decide) (h:=?_);refine RL.load (ho:=rfl) (hr:=dP (j:=0) (p:=⟨b,0,none⟩) mQ rfl) (h:=?_);refine bj (hr:=eql_bool KU4.h _ _) (h:=go 7 ?_);refine ap rfl (ad (by omega) (by omega)) ?_;refine go 2 ?_;exact NQ.round (g:=0) 1 (by decide) (by decide) (.cons rfl (.cons rfl (.cons rfl (.cons rfl .nil)))) (fun w h=>h)
 ·refine go 11 ?_;exact RQ.post (az rfl rfl) (aa _) ⟨rfl,rfl,rfl⟩
theorem scont_f(b c:Nat):Spc Tryz.prog 287 #[.slice (some ⟨b,0,none⟩) 1 c,.bool true] [sls (some ⟨b,0,none⟩) 1 1 [.bool false]] [] (Is (.bool false)):=by refine Spc.enter Tryz.func287 (h:=?_);refine fun w0 hw0=>?_;refine go 9 ?_;refine ab (sidx_f b c) (h:=?_);refine go 5 ?_;exact RQ.post (az rfl rfl) (aa _) ⟨rfl,rfl,rfl⟩
theorem nmind_f(nb:Nat)(A:List Value)(mp:Nat)(nw:Int)(b c:Nat)(hA:A.length=20):Spc Tryz.prog 212 #[.pointer (some ⟨nb,0,none⟩),.slice (some ⟨b,0,none⟩) 1 c] [sls (some ⟨b,0,none⟩) 1 1 [.bool false]] [gY nb A mp nw] (fun v I' H'=>v=.tuple #[]∧I'=[]∧H'=[gY nb A mp nw]):=by
 refine Spc.enter Tryz.func212 (h:=?_);refine fun w0 hw0=>?_;refine go 5 ?_;refine RL.load (ho:=rfl) (hr:=Rd.get mQ (nv_at hA mp nw 4)) (h:=?_);refine go 1 ?_;apply au (d:=9) (dp:=12) (l':=(Sq.of [9,10,11])) rfl (sK [4] rfl)
 ·intro hb6 K6;refine go 1 ?_;refine ar (scont_f b c) (hl:=Lend.inI mQ .nil) (h:=?_);refine go 1 ?_;exact K6 _ (.cons rfl (sK [4] rfl))
 ·intro hb6 K6;refine go 3 ?_;exact K6 _ (.cons rfl (sK [4] rfl))
 refine go 2 ?_;refine aj (cs':=nvC A mp nw) (vs:=[_]) (nv_cut hA mp nw) (ho:=rfl) (hl:=by rw[nv_len hA];simp) (h:=?_);refine go 1 ?_;exact NQ.post (dn rfl) (.keep .nil) ⟨rfl,rfl,rfl⟩
theorem cP(nb:Nat)(g0 g1 g2 dr:Int)(mp:Nat)(nw:Int):Spc Tryz.prog 207 #[.pointer (some ⟨nb,0,none⟩)] [] [gY nb (nvA g0 g1 g2 dr) mp nw] (fun v I' H'=>v=.int .i64 0∧I'=[]∧H'=[gY nb (nvA g0 g1 g2 dr) mp nw]):=by have hd:=vdot_0 4294967296 0 0 (.inr rfl) (.inl rfl) (.inl rfl);refine Spc.enter Tryz.func207 (h:=?_);refine fun w0 hw0=>?_;refine go 6 ?_;refine ae (Sq.of [0,1,2,3,4,5,6,7,8,9,10,11,12,13,14]) [] [] [0,1,2,4,5,6,10,11,12,13,14] (h:=?_);refine go 3 ?_;refine ak (vs:=[.int .i64 0,.int .i64 0,.int .i64 0]) (ho:=rfl) (hr:=Rds.cel mQ (am ⟨rfl,rfl,rfl,trivial⟩)) (h:=?_);refine go 3 ?_;refine ak (vs:=attN) KA275.h KS275.h rfl rfl rfl rfl (Rds.cel mQ (am (by repeat (first|exact trivial|refine⟨rfl,?_⟩)))) ?_;refine ab (atow_1) (h:=?_);refine ab (hd) (h:=?_);refine go 11 ?_;refine ao [_] (ho:=rfl) (h:=?_);intro b1;refine RL.call (nmind_f nb (nvA g0 g1 g2 dr) mp nw b1 1 rfl) (hl:=Lend.own (ob:=some b1) mQ .nil) (hb:=.inr rfl) (h:=?_);rintro _ _ _ ⟨rfl,rfl,rfl⟩;refine go 9 ?_;exact RQ.post (az rfl rfl) (.keep (.drop .nil)) ⟨rfl,rfl,rfl⟩
def turnA(x y:Int)(i:Nat)(b:Bool):Int:=if b=true then IntKind.i64.wrap (x-y.fdiv (2^i)) else IntKind.i64.wrap (x+y.fdiv (2^i))
def turnB(x y:Int)(i:Nat)(b:Bool):Int:=if b=true then IntKind.i64.wrap (y+x.fdiv (2^i)) else IntKind.i64.wrap (y-x.fdiv (2^i))
theorem pow_b{k:Nat}(h:k≤60):2^k≤1152921504606846976:=by have:=Nat.pow_le_pow_right (n:=2) (by decide) h;simpa using this
theorem tsize_yes(n:Nat)(h:n≤9223372036854775807):Spc Tryz.prog 460 #[.int .i64 n] [] [] (Is (.int .u64 n)):=by refine Spc.enter Tryz.func460 (h:=?_);refine fun w0 hw0=>?_;refine go 12 ?_;refine ag rfl ((by simp)) ?_;refine go 10 ?_;exact RQ.post (az rfl rfl) (aa _) ⟨by rw[u64_id n (by omega)],rfl,rfl⟩
theorem tturned_any(x y:Int)(i:Nat)(b:Bool)(hi:i<30):Spc Tryz.prog 422 #[.agg #[.int .i64 x,.int .i64 y],.int .i64 i,.bool b] [] [] (Is (.agg #[.int .i64 (turnA x y i b),.int .i64 (turnB x y i b)])):=by
 refine Spc.enter Tryz.func422 (h:=?_);refine fun w0 hw0=>?_;refine go 7 ?_;intro b1 b2;refine ae (Sq.of [0,1,2,3,4,5,6,7,8,9]) [] [] [0,2,3,4,6,7,8,9] (h:=?_);refine go 3 ?_;refine RL.shr i (hs:=by show i≤64;omega) (h:=?_);refine go 3 ?_;refine RL.shr i (hs:=by show i≤64;omega) (h:=?_);refine go 10 ?_;refine CW.cond rfl (fun h=>?_) (fun h=>?_)
 ·refine go 16 ?_;exact RQ.post (cU (vs:=[_,_]) rfl rfl KA628.h KS628.h mQ rfl) (aa _) ⟨by rw[turnA,turnB,if_pos h,if_pos h],rfl,rfl⟩
 ·refine go 17 ?_;exact RQ.post (cU (vs:=[_,_]) rfl rfl KA628.h KS628.h mQ rfl) (aa _) ⟨by rw[turnA,turnB,if_neg (by rw[h];decide),if_neg (by rw[h];decide)],rfl,rfl⟩
theorem tscaled_1:Spc Tryz.prog 420 #[.agg #[.int .i64 4294967296,.int .i64 0]] [] [] (Is (.agg #[.int .i64 1152921504606846976,.int .i64 0])):=by
 have h0:=tsize_yes 0 (by decide);have h1:=tsize_yes 4294967296 (by decide);refine Spc.enter Tryz.func420 (h:=?_);refine fun w0 hw0=>?_;refine go 8 ?_;intro b1 b2;refine CW.loop (γ:=Unit) (fun _=>True) (fun _=>[(1,.pointer (some ⟨b1,0,none⟩)),(2,.pointer (some ⟨b2,0,none⟩))]) (fun _=>[]) (fun _=>[cel b2 [.int .i64 0,.int .i64 0] 628,cel b1 [.int .i64 4294967296,.int .i64 0] 628]) (fun _=>0) () trivial (.cons rfl (.cons rfl .nil)) (fun w h=>h) ?_;rintro⟨⟩ -;refine go 2 ?_;refine ae (Sq.of [0,1,3,4,2,5,6,7]) [2,5] [] [0,3,6,7] (h:=?_);refine go 4 ?_;refine ab h1 (h:=?_);refine ab h0 (h:=?_);refine RL.max (h:=go 3 ?_);refine ag rfl ((by decide)) ?_;refine go 7 ?_;refine CW.loop (γ:=Nat) (fun k=>k≤28) (fun _=>[(1,.pointer (some ⟨b1,0,none⟩)),(2,.pointer (some ⟨b2,0,none⟩))]) (fun _=>[]) (fun k=>[cel b2 [.int .i64 0,.int .i64 0] 628,cel b1 [.int .i64 ((2^(32+k):Nat):Int),.int .i64 0] 628]) (fun k=>28-k) 0 (by omega) (.cons rfl (.cons rfl .nil)) (fun w h=>h) ?_;intro k hk;have hpb:=pow_b (show 32+k≤60 by omega);have hps:(2^(32+(k+1)):Nat)=2*2^(32+k):=by rw[show 32+(k+1)=(32+k)+1 by omega,Nat.pow_succ,Nat.mul_comm]
 have hpe: ¬k=28→32+k+1≤60:=fun h=>by omega
 have h2:=tsize_yes (2^(32+k)) (by omega);generalize hq:(2^(32+k):Nat)=q at hpb hps h2 ⊢;refine go 2 ?_;refine ae (Sq.of [0,1,3,4,2,5,6,7]) [2,5] [] [0,3,6,7] (h:=?_);refine go 4 ?_;refine ab h2 (h:=?_);refine ab h0 (h:=?_);refine RL.max (h:=go 3 ?_);refine CW.cond rfl (fun hlt=>?_) (fun hlt=>?_)
 ·have hk28:k≠28:=fun e=>by subst e;rw[show(2^(32+28):Nat)=1152921504606846976 from rfl] at hq;simp at hlt;omega
  refine go 6 ?_;refine RL.shl 1 (hn:=rfl) (h:=?_);refine av (d:=28) (v':=.int .i64 ((2*q:Nat):Int)) rfl (by rw[ad (by omega) (by omega)];congr 1;push_cast;omega) ?_;refine go 2 ?_;refine RL.shl 1 (hn:=rfl) (h:=?_);refine av (d:=31) (v':=.int .i64 0) rfl (by kernel_rfl) ?_;refine go 4 ?_;exact NQ.round (g:=k) (k+1) (by omega) (by show 28-(k+1)<28-k;omega) (.cons rfl (.cons rfl .nil)) (fun w h=>by rw[hps];exact h.rea (fun _ h=>h) rE)
 ·refine go 7 ?_;refine ak (vs:=[_,_]) (ho:=rfl) (hr:=Rds.cel mQ (am ⟨rfl,rfl,trivial⟩)) (h:=?_);refine go 4 ?_
  have hqe:q=1152921504606846976:=by
   have: ¬(q:Int)<1152921504606846976:=by simp at hlt;omega
   omega
  subst hqe;exact RQ.post (cU (vs:=[_,_]) rfl rfl KA628.h KS628.h mQ rfl) (aa _) ⟨rfl,rfl,rfl⟩
def angV:List Value:=[.int .i64 536870912,.int .i64 316933406,.int .i64 167458907,.int .i64 85004756,.int .i64 42667331,.int .i64 21354465,.int .i64 10679838,.int .i64 5340245,.int .i64 2670163,.int .i64 1335087,.int .i64 667544,.int .i64 333772,.int .i64 166886,.int .i64 83443,.int .i64 41722,.int .i64 20861,.int .i64 10430,.int .i64 5215,.int .i64 2608,.int .i64 1304,.int .i64 652,.int .i64 326,.int .i64 163,.int .i64 81,.int .i64 41,.int .i64 20,.int .i64 10,.int .i64 5,.int .i64 3,.int .i64 1]
theorem ang_at{i:Nat}(h:i<30):∃t:Int,angV.toArray[i*1]?=some (.int .i64 t):=by
 have h2:∀i,i<30→∃t:Int,angV[i]?=some (.int .i64 t):=fun i hi=>by
  match i,hi with
  | 0,_=>exact⟨_,rfl⟩
  | 1,_=>exact⟨_,rfl⟩
  | 2,_=>exact⟨_,rfl⟩
  | i+3,hi=>
   have hl:i+3<angV.length:=hi;rw[List.getElem?_eq_getElem hl];have hall:∀v∈angV,∃t:Int,v=.int .i64 t:=by intro v hv;simp only[angV,List.mem_cons,List.not_mem_nil,or_false] at hv;rcases hv with rfl|rfl|rfl|rfl|rfl|rfl|rfl|rfl|rfl|rfl|rfl|rfl|rfl|rfl|rfl|rfl|rfl|rfl|rfl|rfl|rfl|rfl|rfl|rfl|rfl|rfl|rfl|rfl|rfl|rfl<;>exact⟨_,rfl⟩
   obtain⟨t,ht⟩:=hall _ (List.getElem_mem hl);exact⟨t,congrArg some ht⟩
 rw[Nat.mul_one,List.getElem?_toArray];exact h2 i h
theorem tangles:Spc Tryz.prog 421 #[] [] [] (Is (.agg angV.toArray)):=by refine Spc.enter Tryz.func421 (h:=?_);refine fun w0 hw0=>?_;refine go 7 ?_;intro b1;refine bi angV (ho:=rfl) (h:=?_);refine an (ho:=rfl) (h:=?_);refine go 3 ?_;exact RQ.post (cU (vs:=angV) rfl rfl KA631.h KS631.h mQ rfl) (aa _) ⟨rfl,rfl,rfl⟩
def angN(i:Nat):Int:=match angV[i]? with
 | some (.int _ t)=>t
 | _=>0
def cL:Nat→Int×Int×Int
 | 0=>(0,1152921504606846976,0)
 | i+1=>let g:=cL i
  (IntKind.u32.wrap (g.1+IntKind.u32.wrap (if g.2.2<0 then IntKind.i64.wrap (0-angN i) else angN i)),turnA g.2.1 g.2.2 i (decide (g.2.2<0)),turnB g.2.1 g.2.2 i (decide (g.2.2<0)))
theorem tangle_1:Spc Tryz.prog 355 #[.int .i64 0,.int .i64 4294967296] [] [] (Is (.int .u32 (cL 30).1)):=by
 refine Spc.enter Tryz.func355 (h:=?_);refine fun w0 hw0=>?_;refine go 11 ?_;refine av (d:=12) (v':=.bool false) rfl (rfl) ?_;refine go 5 ?_;refine ag (h:=go 28 ?_);intro b1;refine ak (vs:=[.int .i64 4294967296,.int .i64 0]) (ho:=rfl) (hr:=Rds.cel mQ (am ⟨rfl,rfl,trivial⟩)) (h:=?_);refine ab (tscaled_1) (h:=?_);refine go 6 ?_;refine ab (tangles) (h:=?_);refine go 4 ?_;refine CW.loop (γ:=Nat) (fun i=>i≤30) (fun i=>[(5,.pointer (some ⟨b1,0,none⟩)),(6,.int .u32 (cL i).1),(26,.agg angV.toArray),(27,.int .i64 (i:Int))]) (fun _=>[]) (fun i=>[cel b1 [.int .i64 (cL i).2.1,.int .i64 (cL i).2.2] 628]) (fun i=>30-i) 0 (Nat.zero_le _) (.cons rfl (.cons rfl (.cons rfl (.cons rfl .nil)))) wE ?_;intro i hi;have hst:cL (i+1)=(IntKind.u32.wrap ((cL i).1+IntKind.u32.wrap (if (cL i).2.2<0 then IntKind.i64.wrap (0-angN i) else angN i)),turnA (cL i).2.1 (cL i).2.2 i (decide ((cL i).2.2<0)),turnB (cL i).2.1 (cL i).2.2 i (decide ((cL i).2.2<0))):=rfl
 rcases hg:cL i with⟨z,p,q⟩
 rw[hg] at hst;dsimp only at hst ⊢;refine go 6 ?_;refine CW.cond rfl (fun hlt=>?_) (fun hlt=>?_)
 ·have hlt:i<30:=by simp at hlt;omega
  obtain⟨t,ht⟩:=ang_at hlt;have htn:angN i=t:=by rw[Nat.mul_one,List.getElem?_toArray] at ht;rw[angN,ht]
  have hwi:some (Value.int .i64 (IntKind.i64.wrap ((i:Int)+1)))=some (.int .i64 (((i+1:Nat):Int))):=by rw[ad (by omega) (by omega)];rfl
  refine go 7 ?_;refine RL.index (j:=i) (v:=.int .i64 t) KU631.h KS2.h KA2.h rfl rfl rfl rfl rfl rfl hlt ht (go 14 ?_);refine ak (vs:=[.int .i64 p,.int .i64 q]) (ho:=rfl) (hr:=Rds.cel mQ (am ⟨rfl,rfl,trivial⟩)) (h:=?_);refine go 2 ?_;refine ab (tturned_any p q i (decide (q<0)) hlt) (h:=?_);refine go 9 ?_;refine CW.cond rfl (fun hq=>?_) (fun hq=>?_)
  ·refine go 2 ?_;refine RL.neg rfl rfl rfl rfl (go 16 ?_);exact NQ.round (g:=i) (i+1) hlt (by show 30-(i+1)<30-i;omega) (.cons rfl (.cons (by rw[hst,htn,if_pos (by simpa using hq)];rfl) (.cons rfl (.cons hwi .nil)))) (fun w h=>by rw[hst];exact h.rea (fun _ h=>h) rE)
  ·refine go 15 ?_;exact NQ.round (g:=i) (i+1) hlt (by show 30-(i+1)<30-i;omega) (.cons rfl (.cons (by rw[hst,htn,if_neg (by simpa using hq)];rfl) (.cons rfl (.cons hwi .nil)))) (fun w h=>by rw[hst];exact h.rea (fun _ h=>h) rE)
 ·refine go 12 ?_;exact RQ.post (az rfl rfl) (.drop .nil) ⟨by rw[show(30:Nat)=i by simp at hlt;omega,hg],rfl,rfl⟩
theorem mhead_1:Spc Tryz.prog 280 #[.agg (gl 3).toArray] [] [] (Is (.int .u32 (cL 30).1)):=by refine Spc.enter Tryz.func280 (h:=?_);refine fun w0 hw0=>?_;refine go 8 ?_;intro b1;refine al (j:=1) (ho:=rfl) (h:=?_);refine al (j:=0) (ho:=rfl) (h:=?_);refine RL.load (v:=.int .i64 0) (ho:=rfl) (hr:=Rd.cel (cs:=gl 3) mQ rfl) (h:=?_);refine al (j:=0) (ho:=rfl) (h:=?_);refine al (j:=0) (ho:=rfl) (h:=?_);refine RL.load (v:=.int .i64 4294967296) (ho:=rfl) (hr:=Rd.cel (cs:=gl 3) mQ rfl) (h:=?_);refine ab (tangle_1) (h:=?_);refine go 4 ?_;exact RQ.post (az rfl rfl) (.drop .nil) ⟨rfl,rfl,rfl⟩
theorem ahead_1:Spc Tryz.prog 206 #[.agg attN.toArray] [] [] (Is (.int .u32 (cL 30).1)):=by refine Spc.enter Tryz.func206 (h:=?_);refine fun w0 hw0=>?_;refine go 9 ?_;intro b1;refine ak (vs:=gl 3) KA273.h KS273.h rfl rfl rfl rfl (Rds.cel mQ (am (by repeat (first|exact trivial|refine⟨rfl,?_⟩)))) ?_;refine ab (mhead_1) (h:=?_);refine go 4 ?_;exact RQ.post (az rfl rfl) (.drop .nil) ⟨rfl,rfl,rfl⟩
theorem fadd_0:Spc Tryz.prog 211 #[.int .i64 0,.int .i64 0] [] [] (Is (.tuple #[.int .i64 0,.bool false])):=by refine Spc.enter Tryz.func211 (h:=?_);refine fun w0 hw0=>?_;refine go 10 ?_;refine ap rfl (ad (by omega) (by omega)) ?_;refine go 16 ?_;refine aI rfl ((by decide+kernel)) ?_;refine go 9 ?_;exact RQ.post (bb rfl rfl rfl) (aa _) ⟨rfl,rfl,rfl⟩
theorem fshift_0:Spc Tryz.prog 285 #[.int .i64 0,.int .i64 (-1)] [] [] (Is (.tuple #[.int .i64 0,.bool false])):=by refine Spc.enter Tryz.func285 (h:=?_);refine fun w0 hw0=>?_;refine go 13 ?_;refine ag rfl ((by decide)) ?_;refine go 6 ?_;refine RL.max (h:=?_);refine RL.neg rfl rfl rfl rfl (RL.min (h:=?_));refine RL.shr 1 (hn:=by decide) (h:=?_);refine go 5 ?_;exact RQ.post (bb rfl rfl rfl) (aa _) ⟨rfl,rfl,rfl⟩
theorem vadd1_0(ba bm:Nat)(k:Nat)(hk:k<3):Spc Tryz.prog 286 #[.int .i64 (k:Int),.pointer (some ⟨ba,0,none⟩),.pointer (some ⟨bm,0,none⟩)] [cel ba vz 27,cel bm vz 27] [] (Is (.tuple #[.int .i64 0,.bool false])):=by refine Spc.enter Tryz.func286 (h:=?_);refine fun w0 hw0=>?_;refine go 7 ?_;refine ae (Sq.of [0,1,2,3,4,5,6,7,8,9,10]) [] [] [0,1,3,4,7,8,9,10] (h:=?_);refine go 1 ?_;refine al (j:=k) (ho:=rfl) (hlt:=hk) (h:=?_);refine RL.load (ho:=rfl) (hr:=aD mQ (vz_at hk)) (h:=?_);refine go 1 ?_;refine al (j:=k) (ho:=rfl) (hlt:=hk) (h:=?_);refine RL.load (ho:=rfl) (hr:=aD mQ (vz_at hk)) (h:=?_);refine ab (fadd_0) (h:=?_);refine go 7 ?_;exact RQ.post (bb rfl rfl rfl) (aa _) ⟨rfl,rfl,rfl⟩
theorem vshift1_0(ba bm:Nat)(k:Nat)(hk:k<3):Spc Tryz.prog 284 #[.int .i64 (k:Int),.pointer (some ⟨ba,0,none⟩),.pointer (some ⟨bm,0,none⟩)] [cel ba vz 27,cel bm [.int .i64 (-1)] 3] [] (Is (.tuple #[.int .i64 0,.bool false])):=by refine Spc.enter Tryz.func284 (h:=?_);refine fun w0 hw0=>?_;refine go 7 ?_;refine ae (Sq.of [0,1,2,3,4,5,6,7,8]) [] [] [0,1,5,6,7,8] (h:=?_);refine go 1 ?_;refine al (j:=k) (ho:=rfl) (hlt:=hk) (h:=?_);refine RL.load (ho:=rfl) (hr:=aD mQ (vz_at hk)) (h:=?_);refine go 1 ?_;refine ab (fshift_0) (h:=?_);refine go 7 ?_;exact RQ.post (bb rfl rfl rfl) (aa _) ⟨rfl,rfl,rfl⟩
theorem veach_add(ba bm:Nat):Spc Tryz.prog 283 #[.func (.func 286) #[] #[.pointer (some ⟨ba,0,none⟩),.pointer (some ⟨bm,0,none⟩)]] [cel ba vz 27,cel bm vz 27] [] (Is (.tuple #[.agg vz.toArray,.bool false])):=by
 refine Spc.enter Tryz.func283 (h:=?_);refine fun w0 hw0=>?_;refine go 23 ?_;intro b1 b2;refine CW.loop (γ:=Nat) (fun i=>i≤3) (fun i=>[(0,.func (.func 286) #[] #[.pointer (some ⟨ba,0,none⟩),.pointer (some ⟨bm,0,none⟩)]),(2,.pointer (some ⟨b1,0,none⟩)),(4,.pointer (some ⟨b2,0,none⟩)),(5,.bool false),(9,.int .i64 (i:Int))]) (fun _=>[cel ba vz 27,cel bm vz 27]) (fun _=>[cel b2 vz 27,cel b1 vz 27]) (fun i=>3-i) 0 (Nat.zero_le _) (.cons rfl (.cons rfl (.cons rfl (.cons rfl (.cons rfl .nil))))) wE ?_;rintro i hi;refine go 6 ?_;refine CW.cond rfl (fun hlt=>?_) (fun hlt=>?_)
 ·have hlt:i<3:=by simp at hlt;omega
  refine go 14 ?_;refine RL.callvFC (vadd1_0 ba bm i hlt) Tryz.call286 rfl rfl rfl rfl rfl (by repeat (first|exact Lend.nil|(refine Lend.inI ?_ ?_;(solve|(repeat (first|exact List.Mem.head _|apply List.Mem.tail))))|(refine Lend.inH ?_ ?_;(solve|(repeat (first|exact List.Mem.head _|apply List.Mem.tail)))))) rfl ?_;refine go 12 ?_;apply au (d:=21) (dp:=23) (l':=(Sq.of [6,7,8])) rfl (sK [0,2,4,5,9,18,19] rfl)
  ·intro hb4 K4;refine go 2 ?_;exact K4 _ (.cons rfl (sK [0,2,4,5,9,18,19] rfl))
  ·intro hb4 K4;refine go 2 ?_;exact K4 _ (.cons rfl (sK [0,2,4,5,9,18,19] rfl))
  refine al (j:=i) (ho:=rfl) (hlt:=hlt) (h:=?_);refine aj (cs:=vz) (vz_set hlt) (ho:=rfl) (hl:=by simp;omega) (h:=?_);refine go 5 ?_;refine ap rfl (ad (by omega) (by omega)) ?_;refine go 2 ?_;exact NQ.round (g:=i) (i+1) hlt (by show 3-(i+1)<3-i;omega) (.cons rfl (.cons rfl (.cons rfl (.cons rfl (.cons rfl .nil))))) wE
 ·have h3:i=3:=by simp at hlt;omega
  refine go 7 ?_;refine ak (vs:=vz) (ho:=rfl) (hr:=Rds.all mQ) (h:=?_);refine go 1 ?_;refine an (vs:=vz) (ho:=rfl) (h:=?_);refine go 4 ?_;exact RQ.post (bG (vs:=vz) rfl rfl rfl KA27.h KS27.h mQ rfl) (aa _) ⟨rfl,rfl,rfl⟩
theorem veach_shift(ba bm:Nat):Spc Tryz.prog 283 #[.func (.func 284) #[] #[.pointer (some ⟨ba,0,none⟩),.pointer (some ⟨bm,0,none⟩)]] [cel ba vz 27,cel bm [.int .i64 (-1)] 3] [] (Is (.tuple #[.agg vz.toArray,.bool false])):=by
 refine Spc.enter Tryz.func283 (h:=?_);refine fun w0 hw0=>?_;refine go 23 ?_;intro b1 b2;refine CW.loop (γ:=Nat) (fun i=>i≤3) (fun i=>[(0,.func (.func 284) #[] #[.pointer (some ⟨ba,0,none⟩),.pointer (some ⟨bm,0,none⟩)]),(2,.pointer (some ⟨b1,0,none⟩)),(4,.pointer (some ⟨b2,0,none⟩)),(5,.bool false),(9,.int .i64 (i:Int))]) (fun _=>[cel ba vz 27,cel bm [.int .i64 (-1)] 3]) (fun _=>[cel b2 vz 27,cel b1 vz 27]) (fun i=>3-i) 0 (Nat.zero_le _) (.cons rfl (.cons rfl (.cons rfl (.cons rfl (.cons rfl .nil))))) wE ?_;rintro i hi;refine go 6 ?_;refine CW.cond rfl (fun hlt=>?_) (fun hlt=>?_)
 ·have hlt:i<3:=by simp at hlt;omega
  refine go 14 ?_;refine RL.callvFC (vshift1_0 ba bm i hlt) Tryz.call284 rfl rfl rfl rfl rfl (by repeat (first|exact Lend.nil|(refine Lend.inI ?_ ?_;(solve|(repeat (first|exact List.Mem.head _|apply List.Mem.tail))))|(refine Lend.inH ?_ ?_;(solve|(repeat (first|exact List.Mem.head _|apply List.Mem.tail)))))) rfl ?_;refine go 12 ?_;apply au (d:=21) (dp:=23) (l':=(Sq.of [6,7,8])) rfl (sK [0,2,4,5,9,18,19] rfl)
  ·intro hb4 K4;refine go 2 ?_;exact K4 _ (.cons rfl (sK [0,2,4,5,9,18,19] rfl))
  ·intro hb4 K4;refine go 2 ?_;exact K4 _ (.cons rfl (sK [0,2,4,5,9,18,19] rfl))
  refine al (j:=i) (ho:=rfl) (hlt:=hlt) (h:=?_);refine aj (cs:=vz) (vz_set hlt) (ho:=rfl) (hl:=by simp;omega) (h:=?_);refine go 5 ?_;refine ap rfl (ad (by omega) (by omega)) ?_;refine go 2 ?_;exact NQ.round (g:=i) (i+1) hlt (by show 3-(i+1)<3-i;omega) (.cons rfl (.cons rfl (.cons rfl (.cons rfl (.cons rfl .nil))))) wE
 ·have h3:i=3:=by simp at hlt;omega
  refine go 7 ?_;refine ak (vs:=vz) (ho:=rfl) (hr:=Rds.all mQ) (h:=?_);refine go 1 ?_;refine an (vs:=vz) (ho:=rfl) (h:=?_);refine go 4 ?_;exact RQ.post (bG (vs:=vz) rfl rfl rfl KA27.h KS27.h mQ rfl) (aa _) ⟨rfl,rfl,rfl⟩
theorem vadd_0:Spc Tryz.prog 210 #[.agg vz.toArray,.agg vz.toArray] [] [] (Is (.tuple #[.agg vz.toArray,.bool false])):=by refine Spc.enter Tryz.func210 (h:=?_);refine fun w0 hw0=>?_;refine go 10 ?_;intro b1 b2 b3;refine RL.makeFunc rfl rfl rfl rfl rfl (ar (veach_add b1 b2) (hl:=Lend.inH mQ (.inH mQ .nil)) (h:=?_));refine go 2 ?_;refine an (vs:=vz) (ho:=rfl) (h:=?_);refine go 4 ?_;exact RQ.post (bG (vs:=vz) rfl rfl rfl KA27.h KS27.h mQ rfl) (aa _) ⟨rfl,rfl,rfl⟩
theorem vshift_0:Spc Tryz.prog 209 #[.agg vz.toArray,.int .i64 (-1)] [] [] (Is (.tuple #[.agg vz.toArray,.bool false])):=by refine Spc.enter Tryz.func209 (h:=?_);refine fun w0 hw0=>?_;refine go 10 ?_;intro b1 b2 b3;refine RL.makeFunc rfl rfl rfl rfl rfl (ar (veach_shift b1 b2) (hl:=Lend.inH mQ (.inH mQ .nil)) (h:=?_));refine go 2 ?_;refine an (vs:=vz) (ho:=rfl) (h:=?_);refine go 4 ?_;exact RQ.post (bG (vs:=vz) rfl rfl rfl KA27.h KS27.h mQ rfl) (aa _) ⟨rfl,rfl,rfl⟩
theorem trC_look(TL:List Trk)(k:Int):aO (.int .i64 k) (fj TL)=(TL.find? fun t=>t.id==k).map fun t=>.pointer (some ⟨t.b,0,none⟩):=by
 induction TL with
 | nil=>rfl
 | cons t l ih=>
  simp only[fj,List.map_cons,aO,List.find?_cons] at ih ⊢;by_cases h:t.id=k
  ·subst h;simp
  ·have h2:(t.id==k)=false:=by simpa using h
   rw[if_neg (by simp;omega),h2];exact ih
def ptrs(PL:List Nat):List Value:=PL.map fun b=>.pointer (some ⟨b,0,none⟩)
theorem ptrs_len(PL:List Nat):(ptrs PL).length=PL.length:=by simp[ptrs]
def AllR(TL:List Trk):Value→List It→List It→Prop:=fun v I' H'=>I'=[]∧∃(PL:List Nat) (ob:Option Nat) (cap:Nat),(∀b∈PL,∃t∈TL,t.b=b)∧PL.length≤8∧v=aE ob PL.length cap∧H'=[own ob cap 279 1 PL.length (ptrs PL)]
theorem nall_any(nb:Nat)(A:List Value)(mp:Nat)(nw:Int)(TL:List Trk)(hA:A.length=20):Spc Tryz.prog 208 #[.pointer (some ⟨nb,0,none⟩)] [gY nb A mp nw,aN mp aF (fj TL)] [] (AllR TL):=by
 have fM:RdI [gY nb A mp nw,aN mp aF (fj TL)] ⟨nb,0+20,none⟩ (.map (some mp)):=⟨fun _=>aD mQ (nv_at hA mp nw 0)⟩;refine Spc.enter Tryz.func208 (h:=?_);refine fun w0 hw0=>?_;refine go 17 ?_;refine cZ (e:=279) 1 (CW.loop (γ:=Nat×List Nat×Option Nat×Nat) (fun g=>g.1≤8∧g.2.1.length≤g.1∧∀b∈g.2.1,∃t∈TL,t.b=b) (fun g=>[(0,.pointer (some ⟨nb,0,none⟩)),(3,aE g.2.2.1 g.2.1.length g.2.2.2),(6,.int .i64 (g.1:Int))]) (fun _=>[gY nb A mp nw,aN mp aF (fj TL)]) (fun g=>[own g.2.2.1 g.2.2.2 279 1 g.2.1.length (ptrs g.2.1)]) (fun g=>8-g.1) (0,[],none,0) ⟨by decide,by decide,fun b h=>by cases h⟩ (.cons rfl (.cons rfl (.cons rfl .nil))) wE ?_);rintro⟨i,PL,ob,cap⟩ ⟨hi,hl,hp⟩;dsimp only at hi hl hp ⊢;have hpl:=ptrs_len PL;refine go 6 ?_;refine CW.cond rfl (fun hlt=>?_) (fun hlt=>?_)
 ·have hlt:i<8:=by simp at hlt;omega
  have hlk:=trC_look TL (i:Int);refine go 11 ?_
  cases hf:TL.find? (fun t=>t.id==(i:Int)) with
  | none=>rw[hf] at hlk;refine go 6 ?_;refine RL.lookup keyI (ho:=rfl) (hk:=⟨(i:Int),rfl⟩) (hm:=eS mQ) (h:=?_);refine av (d:=14) (v':=.pointer none) rfl (by rw[hlk];rfl) ?_;refine go 6 ?_;refine bj (hr:=dG KU279.h _) (h:=go 7 ?_);refine ap rfl (ad (by omega) (by omega)) ?_;refine go 2 ?_;exact NQ.round (g:=(i,PL,ob,cap)) (i+1,PL,ob,cap) ⟨hlt,by dsimp only;omega,hp⟩ (by show 8-(i+1)<8-i;omega) (.cons rfl (.cons rfl (.cons rfl .nil))) (fun w h=>h)
  | some t=>
   rw[hf] at hlk;have htm:=List.mem_of_find?_eq_some hf;refine go 6 ?_;refine RL.lookup keyI (ho:=rfl) (hk:=⟨(i:Int),rfl⟩) (hm:=eS mQ) (h:=?_);refine av (d:=14) (v':=.pointer (some ⟨t.b,0,none⟩)) rfl (by rw[hlk];rfl) ?_;refine go 6 ?_;refine bj (hr:=dG KU279.h _) (h:=go 6 ?_);refine ao [_] (ho:=rfl) (h:=?_);intro b1;refine cd KE392.h (ob:=ob) (cap:=cap) (xs:=ptrs PL) rfl rfl rfl rfl rfl rfl rfl ⟨pE,rfl⟩ (Src.ownS (List.Mem.head _)) (by intro u hu;rw[List.mem_singleton.1 hu];rfl) (by first|omega|(simp only[maxLen];omega)) (by first|omega|(simp only[maxLen];omega)) ?_;intro ob2 cap2 ho2;refine go 5 ?_;refine ap rfl (ad (by omega) (by omega)) ?_;refine go 2 ?_;have e1:ptrs PL++[.pointer (some ⟨t.b,0,none⟩)]=ptrs (PL++[t.b]):=by simp[ptrs]
   refine NQ.round (g:=(i,PL,ob,cap)) (i+1,PL++[t.b],ob2,cap2) ⟨hlt,by simp;omega,fun b hb=>?_⟩ (by show 8-(i+1)<8-i;omega) (.cons rfl (.cons (by simp;rfl) (.cons rfl .nil))) (fun w h=>?_)
   ·rcases List.mem_append.1 hb with hb|hb
    ·exact hp b hb
    ·rw[List.mem_singleton.1 hb];exact⟨t,htm,rfl⟩
   ·dsimp only;rw[←e1,List.length_append,List.length_singleton];exact h.rea (fun _ h=>h) rE
 ·refine go 12 ?_;exact RQ.post (az rfl rfl) (.keep .nil) ⟨rfl,PL,ob,cap,hp,by omega,rfl,rfl⟩
theorem lie_sat{I H:List It}{x:It}{b:Nat}{cs:List Value}{T:TypeId}{w:World}(hm:x∈H)(hl:Lies x (cel b cs T))(hw:Sat I H w):Sat [] [cel b cs T] w:=⟨by simp,by simpa using hl.A w (hw.h _ hm),by simp[PK.cel],by simp⟩
theorem Rds.lieP{I H:List It}{x:It}{b off:Nat}{cs vs:List Value}{T:TypeId}(hm:x∈H)(hl:Lies x (cel b cs T))(h:∀(q:Nat) (u:Value),vs[q]?=some u→cs[off+q]?=some u):Rds I H ⟨b,off,none⟩ vs:=fun w hw=>Rds.cel (I:=[]) (List.Mem.head _) h w (lie_sat hm hl hw)
theorem Rd.lieP{I H:List It}{x:It}{b off:Nat}{cs:List Value}{v:Value}{T:TypeId}(hm:x∈H)(hl:Lies x (cel b cs T))(h:cs[off]?=some v):Rd I H ⟨b,off,none⟩ v:=fun w hw=>Rd.get (I:=[]) (List.Mem.head _) h w (lie_sat hm hl hw)
def cX(a:Int):List Value:=[.int .i64 0,.int .i64 0,.int .i64 0,.int .i64 0,.int .i64 0,.int .i64 0,.int .u32 a,.int .i64 0]
theorem lie_tr{TL:List Trk}{t:Trk}(h:t∈TL):Lies (PK.allI (TL.map iL)) (iL t):=⟨fun _ hA=>hA _ (List.mem_map_of_mem h),fun b hb=>mem_bss.2 ⟨_,List.mem_map_of_mem h,hb⟩⟩
def NOutR(nb:Nat)(A:List Value)(mp:Nat)(nw:Int)(TL:List Trk):Value→List It→List It→Prop:=fun v I' H'=>I'=[]∧(∃a:Int,v=.agg (cX a).toArray)∧H'=[gY nb A mp nw,aN mp aF (fj TL),allI (TL.map iL)]
theorem nout_0(nb:Nat)(g0 g1 g2 dr:Int)(mp:Nat)(nw:Int)(TL:List Trk)(hw:∀t∈TL,t.w=1∧2≤t.kd∧t.kd≤5):Spc Tryz.prog 135 #[.pointer (some ⟨nb,0,none⟩)] [] [gY nb (nvA g0 g1 g2 dr) mp nw,aN mp aF (fj TL),allI (TL.map iL)] (NOutR nb (nvA g0 g1 g2 dr) mp nw TL):=by
 refine Spc.enter Tryz.func135 (h:=?_);refine fun w0 hw0=>?_;refine go 9 ?_;intro b1;refine ar (nis_any nb (nvA g0 g1 g2 dr) mp nw rfl) (hl:=Lend.inH (x:=gY nb (nvA g0 g1 g2 dr) mp nw) mQ .nil) (h:=?_);refine go 7 ?_;refine fQ (γ:=Nat) (fun _=>True) (fun b=>[(0,.pointer (some ⟨nb,0,none⟩)),(2,.pointer (some ⟨b1,0,none⟩)),(3,.pointer (some ⟨b,0,none⟩))]) (fun _=>[]) (fun b=>[gY nb (nvA g0 g1 g2 dr) mp nw,aN mp aF (fj TL),allI (TL.map iL),cel b1 (cX 0) 298,cel b (cX (cL 30).1) 298]) ?_ ?_
 ·refine ae (.cons 0 (.cons 1 (.cons 2 (.cons 4 (.cons 5 (.cons 6 (.cons 8 (.cons 9 (.cons 10 (.cons 11 (.cons 12 (.cons 13 (.fork [3,7,14,16] (fun k=>(bif Nat.beq k 3 then(.fork [7,14,16] (fun k=>(bif Nat.beq k 7 then(.fork [14,16] (fun k=>(bif Nat.beq k 14 then(Sq.of [15,16,17]) else(Sq.of [14,15,17])))) else(bif Nat.beq k 14 then(Sq.of [7,15,16,17]) else(.fork [7,14] (fun k=>(bif Nat.beq k 7 then(Sq.of [14,15,17]) else(Sq.of [7,15,17])))))))) else(bif Nat.beq k 7 then(.fork [3,14,16] (fun k=>(bif Nat.beq k 3 then(.fork [14,16] (fun k=>(bif Nat.beq k 14 then(Sq.of [15,16,17]) else(Sq.of [14,15,17])))) else(bif Nat.beq k 14 then(Sq.of [3,15,16,17]) else(.fork [3,14] (fun k=>(bif Nat.beq k 3 then(Sq.of [14,15,17]) else(Sq.of [3,15,17])))))))) else(bif Nat.beq k 14 then(Sq.of [3,7,15,16,17]) else(.fork [3,7,14] (fun k=>(bif Nat.beq k 3 then(.fork [7,14] (fun k=>(bif Nat.beq k 7 then(Sq.of [14,15,17]) else(Sq.of [7,15,17])))) else(bif Nat.beq k 7 then(.fork [3,14] (fun k=>(bif Nat.beq k 3 then(Sq.of [14,15,17]) else(Sq.of [3,15,17])))) else(Sq.of [3,7,15,17])))))))))))))))))))))) [14,16,17] [14,17] [0,1,2,4,5,6,8,9,10,13,15] (h:=?_);refine go 9 ?_;refine ak (vs:=attN) KA275.h KS275.h rfl rfl rfl rfl (Rds.cel mQ (am (by repeat (first|exact trivial|refine⟨rfl,?_⟩)))) ?_;refine ab (ahead_1) (h:=?_);refine go 1 ?_;refine RL.fork ⟨?_,?_,?_,?_,trivial⟩
  ·refine ak (vs:=vz) (ho:=rfl) (hr:=Rds.cel mQ (am ⟨rfl,rfl,rfl,trivial⟩)) (h:=?_);refine RL.fork ⟨?_,?_,?_,trivial⟩
   ·refine ak (vs:=vz) (ho:=rfl) (hr:=Rds.cel mQ (am ⟨rfl,rfl,rfl,trivial⟩)) (h:=?_);refine RL.fork ⟨?_,?_,trivial⟩
    ·refine RL.call (cP nb g0 g1 g2 dr mp nw) (hl:=.nil) (hb:=.inr rfl) (h:=?_);rintro _ _ _ ⟨rfl,rfl,rfl⟩;refine ay (cX (cL 30).1) (ho:=rfl) (h:=go 1 ?_);intro b2;refine an (vs:=cX (cL 30).1) (ho:=rfl) (h:=?_);refine go 1 ?_;exact aJ b2 trivial (.cons rfl (.cons rfl (.cons rfl .nil))) wE
    ·refine go 1 ?_;intro b2;refine RL.call (cP nb g0 g1 g2 dr mp nw) (hl:=.nil) (hb:=.inr rfl) (h:=?_);rintro _ _ _ ⟨rfl,rfl,rfl⟩;refine ay (cX (cL 30).1) (ho:=rfl) (h:=?_);refine an (vs:=cX (cL 30).1) (ho:=rfl) (h:=?_);refine go 1 ?_;exact aJ b2 trivial (.cons rfl (.cons rfl (.cons rfl .nil))) wE
   ·refine RL.call (cP nb g0 g1 g2 dr mp nw) (hl:=.nil) (hb:=.inr rfl) (h:=?_);rintro _ _ _ ⟨rfl,rfl,rfl⟩;refine ak (vs:=vz) (ho:=rfl) (hr:=Rds.cel mQ (am ⟨rfl,rfl,rfl,trivial⟩)) (h:=?_);refine ay (cX (cL 30).1) (ho:=rfl) (h:=go 1 ?_);intro b2;refine an (vs:=cX (cL 30).1) (ho:=rfl) (h:=?_);refine go 1 ?_;exact aJ b2 trivial (.cons rfl (.cons rfl (.cons rfl .nil))) wE
   ·refine go 1 ?_;intro b2;refine RL.fork ⟨?_,?_,trivial⟩
    ·refine ak (vs:=vz) (ho:=rfl) (hr:=Rds.cel mQ (am ⟨rfl,rfl,rfl,trivial⟩)) (h:=?_);refine RL.call (cP nb g0 g1 g2 dr mp nw) (hl:=.nil) (hb:=.inr rfl) (h:=?_);rintro _ _ _ ⟨rfl,rfl,rfl⟩;refine ay (cX (cL 30).1) (ho:=rfl) (h:=?_);refine an (vs:=cX (cL 30).1) (ho:=rfl) (h:=?_);refine go 1 ?_;exact aJ b2 trivial (.cons rfl (.cons rfl (.cons rfl .nil))) wE
    ·refine RL.call (cP nb g0 g1 g2 dr mp nw) (hl:=.nil) (hb:=.inr rfl) (h:=?_);rintro _ _ _ ⟨rfl,rfl,rfl⟩;refine ak (vs:=vz) (ho:=rfl) (hr:=Rds.cel mQ (am ⟨rfl,rfl,rfl,trivial⟩)) (h:=?_);refine ay (cX (cL 30).1) (ho:=rfl) (h:=?_);refine an (vs:=cX (cL 30).1) (ho:=rfl) (h:=?_);refine go 1 ?_;exact aJ b2 trivial (.cons rfl (.cons rfl (.cons rfl .nil))) wE
  ·refine ak (vs:=vz) (ho:=rfl) (hr:=Rds.cel mQ (am ⟨rfl,rfl,rfl,trivial⟩)) (h:=?_);refine RL.fork ⟨?_,?_,?_,trivial⟩
   ·refine ak (vs:=vz) (ho:=rfl) (hr:=Rds.cel mQ (am ⟨rfl,rfl,rfl,trivial⟩)) (h:=?_);refine RL.fork ⟨?_,?_,trivial⟩
    ·refine RL.call (cP nb g0 g1 g2 dr mp nw) (hl:=.nil) (hb:=.inr rfl) (h:=?_);rintro _ _ _ ⟨rfl,rfl,rfl⟩;refine ay (cX (cL 30).1) (ho:=rfl) (h:=go 1 ?_);intro b2;refine an (vs:=cX (cL 30).1) (ho:=rfl) (h:=?_);refine go 1 ?_;exact aJ b2 trivial (.cons rfl (.cons rfl (.cons rfl .nil))) wE
    ·refine go 1 ?_;intro b2;refine RL.call (cP nb g0 g1 g2 dr mp nw) (hl:=.nil) (hb:=.inr rfl) (h:=?_);rintro _ _ _ ⟨rfl,rfl,rfl⟩;refine ay (cX (cL 30).1) (ho:=rfl) (h:=?_);refine an (vs:=cX (cL 30).1) (ho:=rfl) (h:=?_);refine go 1 ?_;exact aJ b2 trivial (.cons rfl (.cons rfl (.cons rfl .nil))) wE
   ·refine RL.call (cP nb g0 g1 g2 dr mp nw) (hl:=.nil) (hb:=.inr rfl) (h:=?_);rintro _ _ _ ⟨rfl,rfl,rfl⟩;refine ak (vs:=vz) (ho:=rfl) (hr:=Rds.cel mQ (am ⟨rfl,rfl,rfl,trivial⟩)) (h:=?_);refine ay (cX (cL 30).1) (ho:=rfl) (h:=go 1 ?_);intro b2;refine an (vs:=cX (cL 30).1) (ho:=rfl) (h:=?_);refine go 1 ?_;exact aJ b2 trivial (.cons rfl (.cons rfl (.cons rfl .nil))) wE
   ·refine go 1 ?_;intro b2;refine RL.fork ⟨?_,?_,trivial⟩
    ·refine ak (vs:=vz) (ho:=rfl) (hr:=Rds.cel mQ (am ⟨rfl,rfl,rfl,trivial⟩)) (h:=?_);refine RL.call (cP nb g0 g1 g2 dr mp nw) (hl:=.nil) (hb:=.inr rfl) (h:=?_);rintro _ _ _ ⟨rfl,rfl,rfl⟩;refine ay (cX (cL 30).1) (ho:=rfl) (h:=?_);refine an (vs:=cX (cL 30).1) (ho:=rfl) (h:=?_);refine go 1 ?_;exact aJ b2 trivial (.cons rfl (.cons rfl (.cons rfl .nil))) wE
    ·refine RL.call (cP nb g0 g1 g2 dr mp nw) (hl:=.nil) (hb:=.inr rfl) (h:=?_);rintro _ _ _ ⟨rfl,rfl,rfl⟩;refine ak (vs:=vz) (ho:=rfl) (hr:=Rds.cel mQ (am ⟨rfl,rfl,rfl,trivial⟩)) (h:=?_);refine ay (cX (cL 30).1) (ho:=rfl) (h:=?_);refine an (vs:=cX (cL 30).1) (ho:=rfl) (h:=?_);refine go 1 ?_;exact aJ b2 trivial (.cons rfl (.cons rfl (.cons rfl .nil))) wE
  ·refine RL.call (cP nb g0 g1 g2 dr mp nw) (hl:=.nil) (hb:=.inr rfl) (h:=?_);rintro _ _ _ ⟨rfl,rfl,rfl⟩;refine ak (vs:=vz) (ho:=rfl) (hr:=Rds.cel mQ (am ⟨rfl,rfl,rfl,trivial⟩)) (h:=?_);refine ak (vs:=vz) (ho:=rfl) (hr:=Rds.cel mQ (am ⟨rfl,rfl,rfl,trivial⟩)) (h:=?_);refine ay (cX (cL 30).1) (ho:=rfl) (h:=go 1 ?_);intro b2;refine an (vs:=cX (cL 30).1) (ho:=rfl) (h:=?_);refine go 1 ?_;exact aJ b2 trivial (.cons rfl (.cons rfl (.cons rfl .nil))) wE
  ·refine go 1 ?_;intro b2;refine RL.fork ⟨?_,?_,?_,trivial⟩
   ·refine ak (vs:=vz) (ho:=rfl) (hr:=Rds.cel mQ (am ⟨rfl,rfl,rfl,trivial⟩)) (h:=?_);refine RL.fork ⟨?_,?_,trivial⟩
    ·refine ak (vs:=vz) (ho:=rfl) (hr:=Rds.cel mQ (am ⟨rfl,rfl,rfl,trivial⟩)) (h:=?_);refine RL.call (cP nb g0 g1 g2 dr mp nw) (hl:=.nil) (hb:=.inr rfl) (h:=?_);rintro _ _ _ ⟨rfl,rfl,rfl⟩;refine ay (cX (cL 30).1) (ho:=rfl) (h:=?_);refine an (vs:=cX (cL 30).1) (ho:=rfl) (h:=?_);refine go 1 ?_;exact aJ b2 trivial (.cons rfl (.cons rfl (.cons rfl .nil))) wE
    ·refine RL.call (cP nb g0 g1 g2 dr mp nw) (hl:=.nil) (hb:=.inr rfl) (h:=?_);rintro _ _ _ ⟨rfl,rfl,rfl⟩;refine ak (vs:=vz) (ho:=rfl) (hr:=Rds.cel mQ (am ⟨rfl,rfl,rfl,trivial⟩)) (h:=?_);refine ay (cX (cL 30).1) (ho:=rfl) (h:=?_);refine an (vs:=cX (cL 30).1) (ho:=rfl) (h:=?_);refine go 1 ?_;exact aJ b2 trivial (.cons rfl (.cons rfl (.cons rfl .nil))) wE
   ·refine ak (vs:=vz) (ho:=rfl) (hr:=Rds.cel mQ (am ⟨rfl,rfl,rfl,trivial⟩)) (h:=?_);refine RL.fork ⟨?_,?_,trivial⟩
    ·refine ak (vs:=vz) (ho:=rfl) (hr:=Rds.cel mQ (am ⟨rfl,rfl,rfl,trivial⟩)) (h:=?_);refine RL.call (cP nb g0 g1 g2 dr mp nw) (hl:=.nil) (hb:=.inr rfl) (h:=?_);rintro _ _ _ ⟨rfl,rfl,rfl⟩;refine ay (cX (cL 30).1) (ho:=rfl) (h:=?_);refine an (vs:=cX (cL 30).1) (ho:=rfl) (h:=?_);refine go 1 ?_;exact aJ b2 trivial (.cons rfl (.cons rfl (.cons rfl .nil))) wE
    ·refine RL.call (cP nb g0 g1 g2 dr mp nw) (hl:=.nil) (hb:=.inr rfl) (h:=?_);rintro _ _ _ ⟨rfl,rfl,rfl⟩;refine ak (vs:=vz) (ho:=rfl) (hr:=Rds.cel mQ (am ⟨rfl,rfl,rfl,trivial⟩)) (h:=?_);refine ay (cX (cL 30).1) (ho:=rfl) (h:=?_);refine an (vs:=cX (cL 30).1) (ho:=rfl) (h:=?_);refine go 1 ?_;exact aJ b2 trivial (.cons rfl (.cons rfl (.cons rfl .nil))) wE
   ·refine RL.call (cP nb g0 g1 g2 dr mp nw) (hl:=.nil) (hb:=.inr rfl) (h:=?_);rintro _ _ _ ⟨rfl,rfl,rfl⟩;refine ak (vs:=vz) (ho:=rfl) (hr:=Rds.cel mQ (am ⟨rfl,rfl,rfl,trivial⟩)) (h:=?_);refine ak (vs:=vz) (ho:=rfl) (hr:=Rds.cel mQ (am ⟨rfl,rfl,rfl,trivial⟩)) (h:=?_);refine ay (cX (cL 30).1) (ho:=rfl) (h:=?_);refine an (vs:=cX (cL 30).1) (ho:=rfl) (h:=?_);refine go 1 ?_;exact aJ b2 trivial (.cons rfl (.cons rfl (.cons rfl .nil))) wE
 ·rintro bo -;refine go 4 ?_;refine RL.call (nall_any nb (nvA g0 g1 g2 dr) mp nw TL rfl) (hl:=Lend.inH (x:=gY nb (nvA g0 g1 g2 dr) mp nw) mQ (Lend.inH (x:=aN mp aF (fj TL)) mQ .nil)) (hb:=.inr rfl) (h:=?_);rintro _ _ _ ⟨rfl,PL,ob,cap,hpl,hpn,rfl,rfl⟩;refine go 5 ?_;have hptl:=ptrs_len PL;refine aR (p:=ob=none→PL.length=0) (fun w hC=>fun e'=>by subst e';exact dW (hC.s.h (own none cap 279 1 PL.length (ptrs PL)) mQ)) (fun hob=>?_)
  refine CW.loop (γ:=Nat×Int) (fun g=>g.1≤PL.length) (fun g=>[(0,.pointer (some ⟨nb,0,none⟩)),(2,.pointer (some ⟨b1,0,none⟩)),(3,.pointer (some ⟨bo,0,none⟩)),(30,aE ob PL.length cap),(31,.int .i64 (PL.length:Int)),(32,.int .i64 (g.1:Int))]) (fun _=>[]) (fun g=>[gY nb (nvA g0 g1 g2 dr) mp nw,aN mp aF (fj TL),allI (TL.map iL),own ob cap 279 1 PL.length (ptrs PL),cel b1 (cX 0) 298,cel bo (cX g.2) 298]) (fun g=>PL.length-g.1) (0,(cL 30).1) (Nat.zero_le _) (.cons rfl (.cons rfl (.cons rfl (.cons rfl (.cons rfl (.cons rfl .nil)))))) wE ?_;rintro⟨i,hd⟩ hi;dsimp only at hi ⊢;refine go 6 ?_;refine CW.cond rfl (fun hlt=>?_) (fun hlt=>?_)
  ·have hlt:i<PL.length:=by simp at hlt;omega
   cases ob with
   | none=>exact absurd (hob rfl) (by omega)
   | some bp=>
   have hx:=List.getElem?_eq_getElem hlt;have hxm:=List.getElem_mem hlt;obtain⟨t,htm,htb⟩:=hpl _ hxm;generalize PL[i]=tb at hx htb;subst htb;obtain⟨hw1,hkd⟩:=hw t htm;have hpx:(ptrs PL)[i*1]?=some (.pointer (some ⟨t.b,0,none⟩)):=by rw[Nat.mul_one,ptrs,List.getElem?_map,hx];rfl
   refine go 6 ?_;refine aP (j:=i) (ho:=rfl) (hlt:=hlt) (h:=?_);refine RL.load (ho:=rfl) (hr:=by rw[←bn];exact(Rds.own (b:=bp) (cap:=cap) (e:=279) (sz:=1) (n:=PL.length) (xs:=ptrs PL) mQ).rd (j:=i*1) hpx) (h:=?_);refine go 4 ?_;refine ae (Sq.of [0,1,2,3,4,5,6,7,8,9,10,11,12,13,14,15,16,17]) [15,16] [16] [0,1,2,3,5,6,7,8,10,12,13,14,17] (h:=?_);refine go 4 ?_;refine ak (vs:=vz) (ho:=rfl) (hr:=Rds.lieP (x:=PK.allI (TL.map iL)) mQ (lie_tr htm) (am ⟨rfl,rfl,rfl,trivial⟩)) (h:=?_);refine go 4 ?_;refine RL.load (ho:=rfl) (hr:=Rd.lieP (x:=PK.allI (TL.map iL)) mQ (lie_tr htm) rfl) (h:=?_);refine av (d:=46) (v':=.int .i64 1) rfl (by rw[hw1]) ?_;refine RL.neg rfl rfl rfl rfl (ab (vshift_0) (h:=?_));refine go 4 ?_;intro b2;refine an (vs:=vz) (ho:=rfl) (h:=?_);refine go 9 ?_;refine fQ (γ:=Int) (fun _=>True) (fun _=>[(0,.pointer (some ⟨nb,0,none⟩)),(2,.pointer (some ⟨b1,0,none⟩)),(3,.pointer (some ⟨bo,0,none⟩)),(8,.bool false),(30,aE (some bp) PL.length cap),(31,.int .i64 (PL.length:Int)),(32,.int .i64 (i:Int))]) (fun _=>[]) (fun hd'=>[gY nb (nvA g0 g1 g2 dr) mp nw,aN mp aF (fj TL),allI (TL.map iL),own (some bp) cap 279 1 PL.length (ptrs PL),cel b1 (cX 0) 298,cel bo (cX hd') 298]) ?_ ?_
   ·have hk4:t.kd=2∨t.kd=3∨t.kd=4∨t.kd=5:=by omega
    refine go 6 ?_;refine RL.load (ho:=rfl) (hr:=Rd.lieP (x:=PK.allI (TL.map iL)) mQ (lie_tr htm) rfl) (h:=?_);refine go 19 ?_;refine CW.cond rfl (fun h2=>?_) (fun h2=>?_)
    ·refine go 6 ?_;refine al (j:=0) (ho:=rfl) (h:=?_);refine go 1 ?_;refine bi [_,_,_] (ho:=rfl) (h:=go 7 ?_);refine ak (vs:=vz) (ho:=rfl) (hr:=Rds.cel (cs:=cX hd) mQ (am ⟨rfl,rfl,rfl,trivial⟩)) (h:=?_);refine ak (vs:=vz) (ho:=rfl) (hr:=Rds.cel mQ (am ⟨rfl,rfl,rfl,trivial⟩)) (h:=?_);refine ab (vadd_0) (h:=?_);refine go 4 ?_;refine aj (cs':=cX hd) (vs:=vz) rfl KS27.h rfl rfl rfl rfl rfl rfl rfl rfl uE (by show 0+0+3≤8;decide) ?_;refine go 9 ?_;exact aJ hd trivial (.cons rfl (.cons rfl (.cons rfl (.cons rfl (.cons rfl (.cons rfl (.cons rfl .nil))))))) wE
    ·refine go 9 ?_;refine CW.cond rfl (fun h5=>?_) (fun h5=>?_)
     ·refine go 10 ?_;refine ak (vs:=vz) (ho:=rfl) (hr:=Rds.cel (cs:=cX hd) mQ (am ⟨rfl,rfl,rfl,trivial⟩)) (h:=?_);refine ak (vs:=vz) (ho:=rfl) (hr:=Rds.cel mQ (am ⟨rfl,rfl,rfl,trivial⟩)) (h:=?_);refine ab (vadd_0) (h:=?_);refine go 4 ?_;refine aj (cs':=cX hd) (vs:=vz) rfl KS27.h rfl rfl rfl rfl rfl rfl rfl rfl uE (by show 0+0+3≤8;decide) ?_;refine go 9 ?_;exact aJ hd trivial (.cons rfl (.cons rfl (.cons rfl (.cons rfl (.cons rfl (.cons rfl (.cons rfl .nil))))))) wE
     ·refine go 9 ?_;refine CW.cond rfl (fun h3=>?_) (fun h3=>?_)
      ·refine go 13 ?_;refine al (j:=0) (ho:=rfl) (h:=?_);refine go 11 ?_;exact aJ _ trivial (.cons rfl (.cons rfl (.cons rfl (.cons rfl (.cons rfl (.cons rfl (.cons rfl .nil))))))) wE
      ·refine go 8 ?_;refine CW.cond rfl (fun h6=>?_) (fun h6=>?_)
       ·refine go 13 ?_;refine RL.load (v:=.int .i64 0) (ho:=rfl) (hr:=Rd.cel (cs:=cX hd) mQ rfl) (h:=?_);refine al (j:=0) (ho:=rfl) (h:=?_);refine go 1 ?_;refine ab (fadd_0) (h:=?_);refine go 10 ?_;exact aJ hd trivial (.cons rfl (.cons rfl (.cons rfl (.cons rfl (.cons rfl (.cons rfl (.cons rfl .nil))))))) wE
       ·exfalso;simp at h2 h3 h5 h6;omega
   ·rintro hd' -;refine go 3 ?_;refine ao [_] (ho:=rfl) (h:=?_);intro b3;refine RL.call (nmind_f nb (nvA g0 g1 g2 dr) mp nw b3 1 rfl) (hl:=Lend.own (ob:=some b3) mQ .nil) (hb:=.inr rfl) (h:=?_);rintro _ _ _ ⟨rfl,rfl,rfl⟩;refine go 4 ?_;refine ap rfl (ad (by omega) (by omega)) ?_;refine go 2 ?_;exact NQ.round (g:=(i,hd)) (i+1,hd') hlt (by show PL.length-(i+1)<PL.length-i;omega) (.cons rfl (.cons rfl (.cons rfl (.cons rfl (.cons rfl (.cons rfl .nil)))))) wE
  ·refine go 7 ?_;refine aT (vs:=cX hd) (ho:=rfl) (hl:=rfl) (h:=?_);refine an (vs:=cX hd) (ho:=rfl) (h:=?_);refine go 3 ?_;refine RQ.rea (fun _ h=>h) (H':=[cel b1 (cX hd) 298,gY nb (nvA g0 g1 g2 dr) mp nw,aN mp aF (fj TL),allI (TL.map iL)]) rE ?_;exact RQ.post (cU (vs:=cX hd) rfl rfl KA298.h KS298.h mQ rfl) (.drop (.keep (.keep (.keep .nil)))) ⟨rfl,⟨hd,rfl⟩,rfl⟩
theorem navC_of{c:Cf}(h1:0≤c.dr∧(b9 c.L).length≤8)(h3:adsB (b9 c.L)=true)(hT:∀a∈b9 c.L,(∀b,(trA a b).Ok)∧a.w=1∧2≤a.kd∧a.kd≤5):NavC c:=fun oa cap=>by
 refine gS (nnew_yes c.g0 c.g1 c.g2 c.dr oa cap _ (b9 c.L) rfl h1 h3) ?_
 rintro v I' H' ⟨rfl,nb,mp,TL,hTL,rfl,rfl⟩
 have hq:∀t∈TL,t.Ok∧t.w=1∧2≤t.kd∧t.kd≤5:=fun t ht=>by
  obtain⟨a,ha,e⟩:=hTL t ht
  have:=hT a ha
  rw[e]
  exact⟨this.1 _,this.2⟩
 refine⟨rfl,nb,nvA c.g0 c.g1 c.g2 c.dr,mp,TL,⟨rfl,fun t ht=>(hq t ht).1,fun nw _=>?_⟩,rfl,rfl⟩
 refine gS (nout_0 nb c.g0 c.g1 c.g2 c.dr mp nw TL (fun t ht=>(hq t ht).2)) ?_
 rintro v I' H' ⟨rfl,⟨a,rfl⟩,rfl⟩
 exact⟨rfl,⟨_,_,_,_,_,_,_,_,rfl⟩,rfl⟩
theorem ads_cfg(seed:B8):b9 (cK seed [] 6)=[adOf (dU seed 1 2),adOf (dU seed 2 3),adOf (dU seed 3 4),adOf (dU seed 4 5)]:=rfl
theorem nav_cfg(seed:B8):NavC (bL seed):=by
 refine navC_of ⟨of_decide_eq_true rfl,?_⟩ rfl ?_
 ·show(b9 (cK seed [] 6)).length≤8;rw[ads_cfg];exact of_decide_eq_true rfl
 ·show∀a∈b9 (cK seed [] 6),_;rw[ads_cfg];intro a ha;simp only[List.mem_cons,List.not_mem_nil,or_false] at ha;rcases ha with rfl|rfl|rfl|rfl;all_goals exact⟨fun b=>⟨of_decide_eq_true rfl,of_decide_eq_true rfl,of_decide_eq_true rfl⟩,rfl,of_decide_eq_true rfl,of_decide_eq_true rfl⟩
theorem bt_cfg(seed:B8):BtOk (bL seed) where
 fit:=cfgC_fit seed
 mo:=of_decide_eq_true rfl
 ti:=of_decide_eq_true rfl
 sc:=by show Sch.Ok ⟨0,10,2,3⟩;unfold Sch.Ok;decide
 id:=by
  have h:(bL seed).L.all (fun s=>decide (0≤s.id∧s.id≤7))=true:=rfl
  exact fun s hs=>of_decide_eq_true (List.all_eq_true.1 h s hs)
 wt:=by
  have h:(bL seed).L.all (fun s=>decide (2≤s.kd∧s.kd≤5→((0≤s.wt.go∧0≤s.wt.gg∧s.wt.go≤s.wt.gm)∧(0≤s.wt.sl∧1≤s.wt.mo)∧(1≤s.wt.sa∧s.wt.sa≤1000∧0≤s.wt.ra)∧(1≤s.wt.ba∧s.wt.ba≤100∧1≤s.wt.ho∧s.wt.ho≤65535∧1≤s.wt.pr∧s.wt.pr≤100))))=true:=rfl
  exact fun s hs=>of_decide_eq_true (List.all_eq_true.1 h s hs)
 nd:=by
  intro i s hi t ht
  have h:(List.range 6).all (fun i=>match (bL seed).L[i]? with|some s=>((bL seed).L.take i).all (fun t=>decide (t.id≠s.id))|none=>true)=true:=rfl
  have hlt:i<6:=(List.getElem?_eq_some_iff.1 hi).1
  have h1:=List.all_eq_true.1 h i (List.mem_range.2 hlt)
  rw[hi] at h1
  exact of_decide_eq_true (List.all_eq_true.1 h1 t ht)
 sd:=of_decide_eq_true rfl
 l:=of_decide_eq_true rfl
 l0:=of_decide_eq_true rfl
 nav:=nav_cfg seed
set_option maxRecDepth 100000
noncomputable def rActT:Rdr Tryz.prog 57 ActT:=
 Rdr.struct (fs := [Field.mk "Do" 3 0 false "" "" 0, Field.mk "Source" 3 1 false "" "" 8, Field.mk "N" 3 2 false "" "" 16, Field.mk "Ahead" 3 3 false "" "" 24, Field.mk "R" 54 4 false "" "" 32, Field.mk "By" 5 61 false "" "" 192, Field.mk "Raw" 55 62 false "" "" 200].toArray) (tot := 63) (α := Int × Int × Int × Int × Rdg × B8 × Sl B8 × Unit)
  (by kernel_rfl) (by kernel_rfl)
  (.cons (k:=1) rInt rfl (by kernel_rfl) (by decide) (.cons (k:=1) rInt rfl (by kernel_rfl) (by decide) (.cons (k:=1) rInt rfl (by kernel_rfl) (by decide) (.cons (k:=1) rInt rfl (by kernel_rfl) (by decide) (.cons (k:=57) rRdg rfl (by kernel_rfl) (by decide) (.cons (k:=1) rU8 rfl (by kernel_rfl) (by decide) (.cons (k:=1) rBytes rfl (by kernel_rfl) (by decide) .nil)))))))
  ActT.cells (fun _=>[]) (fun _=>True)
  (fun⟨d,s,n,a,r,b,w,_⟩ h=>by
   refine⟨⟨d,s,n,a,r,b,w⟩,?_,trivial,fun y hy=>by simp at hy⟩
   show _=[Value.int .i64 d]++([Value.int .i64 s]++([Value.int .i64 n]++([Value.int .i64 a]++(r.cells++([U8 b]++([Value.slice w.p w.l.length w.c]++[]))))))
   simp[ActT.cells])
  (fun _ _=>rfl)
noncomputable def rActTs:Rdr Tryz.prog 22 (Sl ActT):=rActT.slice 63 (by kernel_rfl) (by kernel_rfl) (by kernel_rfl) (by decide) (List.flatMap ActT.cells) (fun _=>rfl)
theorem topClocks_of(hwk:Spc Tryz.prog 4 #[] [] [] (Is (.bool true)))(W:World)(seed:B8)(off:Int)(l:Sl ActT)(tl:∀y∈rActTs.its l,y.A W):Calls Tryz.prog 3 #[rU8.val seed,rInt.val off,rActTs.val l] W (fun e w'=>e=.returned (.bool true)∧RowKit.Below W.heap.size W w'):=by have tl:∀y∈(sls l.p 63 l.l.length (l.l.flatMap ActT.cells)::l.l.flatMap fun _=>([]:List It)),y.A W:=tl;exact(tclocks seed (bt_cfg seed) hwk off l.p l.c _ l.l rfl).lawI (fun y hy=>by rw[List.mem_singleton] at hy;subst hy;exact tl _ (List.Mem.head _))
def act0:ActT:=⟨0,0,0,0,rz 1,0#8,⟨none,0,[]⟩⟩
theorem act0_am:ja 0 18=0:=by decide
theorem wkind_0:Spc Tryz.prog 41 #[.agg act0.cells.toArray] [] [] (Is (.int .i64 0)):=by have h:=among_any 0 18 (by decide) (by decide);rw[act0_am] at h;have h63:=act_len act0;refine Spc.enter Tryz.func41 (h:=?_);refine fun w0 hw0=>?_;refine go 9 ?_;intro b1;refine RL.load (ho:=rfl) (hr:=Rd.cel (cs:=act0.cells) mQ rfl) (h:=?_);refine ab (h) (h:=?_);refine go 4 ?_;exact RQ.post (az rfl rfl) (aa _) ⟨rfl,rfl,rfl⟩
def WByR(f:Fr):Value→List It→List It→Prop:=fun v I' H'=>I'=[]∧∃rb rc,v=.tuple #[aE rb (eA f).length rc,.bool true]∧H'=[own rb rc 5 1 (eA f).length (bytes (eA f))]
theorem wbytes_0(seed:B8)(wb:Nat)(T:List Value)(z:RCr)(hz:z.Ok)(hc:z.c=bL seed)(hl:z.l=[])(hct:z.ct 0=0):Spc Tryz.prog 18 #[.pointer (some ⟨wb,0,none⟩),.agg act0.cells.toArray] [cel wb (.pointer (some ⟨z.b,0,none⟩)::T) 65,rcrS z] [eN z] (WByR (frS (z.snd (s0 seed)) (rz 1))):=by
 have h63:=act_len act0;have hsd:=rSend_any z 0 (rz 1) rz1_ok hz (by rw[hl];decide);refine Spc.enter Tryz.func18 (h:=?_);refine fun w0 hw0=>?_;refine go 8 ?_;intro b1;refine aB (A:=[cel b1 act0.cells 57]) (B:=[eN z]) (h:=?_);refine aW (fun J hJ=>?_);have mA:cel b1 act0.cells 57∈J:=hJ _ (List.Mem.head _);have mW:cel wb (.pointer (some ⟨z.b,0,none⟩)::T) 65∈J:=hJ _ (List.Mem.tail _ (List.Mem.head _));have mS:rcrS z∈J:=hJ _ (List.Mem.tail _ (List.Mem.tail _ (List.Mem.head _)));clear hJ;have fA:RdsN J ⟨b1,0,none⟩ 63 act0.cells:=⟨fun _=>Rds.allI mA,rfl⟩;have fS:RdI J ⟨b1,0+1,none⟩ (.int .i64 0):=⟨fun _=>Rd.celI mA rfl⟩;have fR:RdsN J ⟨b1,0+4,none⟩ 57 (rz 1).cells:=aV mA (am (by repeat (first|exact trivial|refine⟨rfl,?_⟩))) rfl;have fW:RdI J ⟨wb,0+0,none⟩ (.pointer (some ⟨z.b,0,none⟩)):=⟨fun _=>Rd.celI mW rfl⟩;refine go 13 ?_;refine ab (wkind_0) (h:=?_);refine go 14 ?_;refine ae (Sq.of [0,1,2,3,4,5,6,7,8,9,10,11,12,13]) [8] [8] [0,1,2,3,4,5,6,7,9,10,11,12,13] (h:=?_);refine go 8 ?_;refine RL.call (hsd) (hl:=.inI mS .nil) (hb:=.inr rfl) (h:=?_);rintro v I' H' hR;rcases hR with⟨hg5,-⟩|⟨s',hg5,hR⟩
 ·rw[hc,grd_0] at hg5;cases hg5
 obtain rfl:s0 seed=s':=by rw[hc,grd_0] at hg5;exact Option.some.inj hg5
 rcases hR with⟨hk,-⟩|⟨-,rfl,⟨hne,-⟩|⟨hse,rb,rc,bo,bc,so,soc,rfl,rfl⟩⟩
 ·exact absurd hk (by show¬((1:Int)=10);decide)
 ·exact(hne (send1 (by omega))).elim
 generalize frS (z.snd (s0 seed)) (rz 1)=f;refine go 18 ?_;exact RQ.rea (fun _ h=>h) (H':=[own rb rc 5 1 (eA f).length (bytes (eA f))]) rE (RQ.post (bb rfl rfl rfl) (.keep .nil) ⟨rfl,rb,rc,rfl,rfl⟩)
theorem nav_pln(seed:B8):NavC (aZ seed []):=by
 refine navC_of ⟨of_decide_eq_true rfl,?_⟩ rfl ?_
 ·show(b9 (cK seed [] 6)).length≤8;rw[ads_cfg];exact of_decide_eq_true rfl
 ·show∀a∈b9 (cK seed [] 6),_;rw[ads_cfg];intro a ha;simp only[List.mem_cons,List.not_mem_nil,or_false] at ha;rcases ha with rfl|rfl|rfl|rfl;all_goals exact⟨fun b=>⟨of_decide_eq_true rfl,of_decide_eq_true rfl,of_decide_eq_true rfl⟩,rfl,of_decide_eq_true rfl,of_decide_eq_true rfl⟩
theorem bt_pln(seed:B8):BtOk (aZ seed []) where
 fit:=plainC_fit seed []
 mo:=of_decide_eq_true rfl
 ti:=of_decide_eq_true rfl
 sc:=by show Sch.Ok ⟨0,100,2,20⟩;unfold Sch.Ok;decide
 id:=by
  have h:(aZ seed []).L.all (fun s=>decide (0≤s.id∧s.id≤7))=true:=rfl
  exact fun s hs=>of_decide_eq_true (List.all_eq_true.1 h s hs)
 wt:=by
  have h:(aZ seed []).L.all (fun s=>decide (2≤s.kd∧s.kd≤5→((0≤s.wt.go∧0≤s.wt.gg∧s.wt.go≤s.wt.gm)∧(0≤s.wt.sl∧1≤s.wt.mo)∧(1≤s.wt.sa∧s.wt.sa≤1000∧0≤s.wt.ra)∧(1≤s.wt.ba∧s.wt.ba≤100∧1≤s.wt.ho∧s.wt.ho≤65535∧1≤s.wt.pr∧s.wt.pr≤100))))=true:=rfl
  exact fun s hs=>of_decide_eq_true (List.all_eq_true.1 h s hs)
 nd:=by
  intro i s hi t ht
  have h:(List.range 6).all (fun i=>match (aZ seed []).L[i]? with|some s=>((aZ seed []).L.take i).all (fun t=>decide (t.id≠s.id))|none=>true)=true:=rfl
  have hlt:i<6:=(List.getElem?_eq_some_iff.1 hi).1
  have h1:=List.all_eq_true.1 h i (List.mem_range.2 hlt)
  rw[hi] at h1
  exact of_decide_eq_true (List.all_eq_true.1 h1 t ht)
 sd:=of_decide_eq_true rfl
 l:=of_decide_eq_true rfl
 l0:=of_decide_eq_true rfl
 nav:=nav_pln seed
theorem pln_ok(seed:B8):(aZ seed []).ok=true:=rfl
theorem pln_plan(seed:B8)(zb:Nat):PlOk (aZ seed []) (plZn,some zb,4) 20 1000 3 64 where
 bt:=bt_pln seed
 ok:=pln_ok seed
 de:=by decide
 ra:=by decide
 mo:=by decide
 m0:=by decide
 m1:=by decide
 zl:=by show plZn.L.length≤1000;decide
 ze:=by show Zn.err plZn=0;decide+kernel
 ba:=by
  have h:(aZ seed []).L.all Sr.bare=true:=rfl
  exact fun s hs=>List.all_eq_true.1 h s hs
theorem works_true:Spc Tryz.prog 4 #[] [] [] (Is (.bool true)):=by
 refine Spc.enter Tryz.func4 (h:=?_);refine fun w0 hw0=>?_;refine go 7 ?_;refine RL.call (made_any 1#8 (bt_cfg 1#8)) (hl:=.nil) (hb:=.inr rfl) (h:=?_);rintro _ _ _ ⟨rfl,wb,T,z,oa,ca,C,x,rfl,hz,hU,rfl⟩;have hzl:z.l=[]:=hz.l;have hct:z.ct 0=0:=by rw[hz.ct]
 have hep:z.ep 0=1:=by rw[hz.ep];rfl
 have hoa:=hz.oa;have hcf:=hz.cf;subst hoa;rw[←hcf];refine go 7 ?_;refine bj (hr:=fb KU46.h _) (h:=go 2 ?_);have hx0:=hU.hx;have hff:(frS (z.snd (s0 1#8)) (rz 1)).Fit:=frS_fit (of_decide_eq_true rfl) (hz.ok.ep _) (hz.ok.ct _) (send1 (by omega));have hres:=first_res (seed:=1#8) hU.r hep hct;have hlk:di x.g (frS (z.snd (s0 1#8)) (rz 1)) x.u.now=0:=by rw[hU.n];exact first_look (seed:=1#8) (x:=z.snd (s0 1#8)) hU.g rfl hep
 have hkd:=frS_kd (z.snd (s0 1#8)) (rz 1);have hfb:=frS_b (z.snd (s0 1#8)) (rz 1);have hgo:bV 1 (frS (z.snd (s0 1#8)) (rz 1)).b=some (rz 1):=by rw[hfb,rz1_put.1];exact rz1_got
 rw[show(rz 1).kind=1 from rfl] at hkd;refine go 6 ?_;refine ay (rz 1).cells (ho:=rfl) (h:=?_);refine ay act0.cells (ho:=rfl) (h:=?_);refine RL.call (wbytes_0 1#8 wb (.pointer (some ⟨C.B.b,0,none⟩)::T) z hz.ok hz.cf hzl hct) (hl:=Lend.inH mQ (Lend.own (ob:=z.oa) mQ .nil)) (hb:=.inr rfl) (h:=?_);rintro _ _ _ ⟨rfl,rb,rc,rfl,rfl⟩;generalize frS (z.snd (s0 1#8)) (rz 1)=f at hff hres hlk hkd hgo ⊢;refine go 12 ?_;refine RL.load (v:=.pointer (some ⟨C.B.b,0,none⟩)) (ho:=rfl) (hr:=Rd.cel mQ rfl) (h:=?_);refine go 1 ?_;refine RL.call ((ubytes1 C x f (rz 1) (1,8) none 0 0 0 (rb.map fun b=>⟨b,0,none⟩) rc _ hU.hC hx0 (by rw[hU.w,hU.n];decide) (by rw[hU.n];decide) hff hkd rfl hres.1 hres.2 hlk hgo rfl).bundle) Tryz.call19 rfl rfl rfl rfl rfl pE (Lend.own mQ .nil) (.inr rfl) ?_;rintro _ _ _ ⟨_,⟨eo,ec,rfl,rfl,rfl⟩,rfl⟩;refine go 9 ?_;refine RL.call (gplain_any 1#8) (hl:=.nil) (hb:=.inr rfl) (h:=?_);rintro _ _ _ ⟨rfl,ob,cap,zb,zs,rfl,rfl⟩;refine go 1 ?_;intro b1;refine an KS37.h rfl rfl rfl rfl rfl rfl rfl (iI (ed _ (by cases ob<;>rfl)) (some zs) 1 1 _ _ _ _) uE (eP (cj rfl _) _ _ _ _ _) rfl ?_;refine go 3 ?_;refine aR (p:=eo=none→False) (fun w hC=>fun e'=>by subst e';have h0:(PK.allI [own none ec 73 62 1 (evC f 0 (rz 0))]).A w:=hC.s.h _ mQ;have:=dW (h0 _ (List.Mem.head _));omega) (fun hob=>?_)
 cases eo with
 | none=>exact(hob rfl).elim
 | some eb=>
 refine aB (A:=[cel b1 (gV ((aZ 1#8 []).cells (aE ob (aZ 1#8 []).L.length cap)) (aE (some zs) 1 1) (iM 20 1000 3 64)) 37,own ob cap 167 48 (aZ 1#8 []).L.length ((aZ 1#8 []).L.flatMap Sr.cells),own (some zs) 1 85 4 1 (znO (plZn,some zb,4)),own (some zb) 4 82 2 4 (plZn.L.flatMap Pt.cells),PK.allI [own (some eb) ec 73 62 1 (evC f 0 (rz 0))]]) (B:=[own rb rc 5 1 (eA f).length (bytes (eA f)),cel wb (.pointer (some ⟨z.b,0,none⟩):: .pointer (some ⟨C.B.b,0,none⟩)::T) 65,own z.oa ca 134 48 z.c.L.length (z.c.L.flatMap Sr.cells)]) (.take (.take (.take (.take (.take (.leave (.leave (.leave .nil)))))))) rfl (CW.sub (dm (List.Mem.head _)) (List.Mem.tail _ (List.Mem.tail _ (List.Mem.tail _ (List.Mem.tail _ (List.Mem.head _))))) (CW.sub (Lies.ownS (ob:=some eb)) (List.Mem.head _) ?_));refine aW (fun J hJ=>?_);refine CW.rea (fun _ h=>h) (H':=[]) rE ?_;have mE:sls (some ⟨eb,0,none⟩) 62 1 (evC f 0 (rz 0))∈J:=hJ _ (List.Mem.head _);have mP:cel b1 (gV ((aZ 1#8 []).cells (aE ob (aZ 1#8 []).L.length cap)) (aE (some zs) 1 1) (iM 20 1000 3 64)) 37∈J:=hJ _ (by simp);have mC:own ob cap 167 48 (aZ 1#8 []).L.length ((aZ 1#8 []).L.flatMap Sr.cells)∈J:=hJ _ (by simp);have mZ:own (some zs) 1 85 4 1 (znO (plZn,some zb,4))∈J:=hJ _ (by simp);have mQq:own (some zb) 4 82 2 4 (plZn.L.flatMap Pt.cells)∈J:=hJ _ (by simp);clear hJ;have fA:RdsN J ⟨b1,0,none⟩ 50 (gV ((aZ 1#8 []).cells (aE ob (aZ 1#8 []).L.length cap)) (aE (some zs) 1 1) (iM 20 1000 3 64)):=⟨fun _=>Rds.allI mP,eP (cj rfl _) _ _ _ _ _⟩;have fE:RdI J ⟨eb,0+0*62+4,none⟩ (.int .i64 0):=⟨fun H=>by have h:=dP (j:=4) (H:=H) mE (v:=.int .i64 0) rfl;rwa[bn] at h⟩;refine ae (Sq.of [0,1,2,3,4,5,6,7]) [1,2] [1,2] [0,3,4,5,6,7] (h:=?_);refine go 1 ?_;refine RL.call (bknew_any) (hl:=.nil) (hb:=.inr rfl) (h:=?_);rintro _ _ _ ⟨st,rfl,rfl,rfl⟩;refine RL.call (gnew_any (aZ 1#8 []) (plZn,some zb,4) 20 1000 3 64 (pln_plan 1#8 zb) ob cap (some zs) 1 st) (hl:=gx mC (gx mZ (gx mQq .nil))) (hb:=.inr rfl) (h:=?_);rintro _ _ _ ⟨rfl,G,x1,s1,hG,hx1,hxn1,hxw1,hof1,hrs1,hes1,rfl,rfl⟩;refine go 9 ?_;refine RL.call (jm 1#8) (hl:=.nil) (hb:=.inr rfl) (h:=?_);rintro _ _ _ ⟨o3,c3,rfl,rfl,rfl⟩;refine ab (last_any 1#8) (h:=?_);refine RL.call (eNew_any (bL 1#8) o3 c3 _ (lastK 1#8) 24 (cfgC_fit 1#8) rfl (by rw[cfgC_len];decide) (lastK_len 1#8)) Tryz.call20 rfl rfl rfl rfl rfl pE (Lend.own mQ .nil) (.inr rfl) ?_;rintro _ _ _ ⟨rfl,hN⟩;rcases hN with⟨h,-⟩|⟨-,z3,rfl,rfl,-⟩
 ·exact(h (cfg_new 1#8)).elim
 refine go 11 ?_;apply aL (d:=44) (dp:=47) (l':=(Sq.of [5,6,7,8,9,10,11,12,13,14,15,16,17,18,19,20,21,22,23,24,25,26,27,28,29,30,31])) rfl (sK [4,7,8,10] rfl)
 ·intro hb2 K2;refine go 3 ?_;exact K2 _ (.cons rfl (sK [4,7,8,10] rfl))
 ·intro hb2 K2;refine go 3 ?_;exact K2 _ (.cons rfl (sK [4,7,8,10] rfl))
 refine go 1 ?_;apply aL (d:=48) (dp:=52) (l':=(Sq.of [10,11,12,13,14,15,16,17,18,19,20,21,22,23,24,25,26,27,28,29,30,31])) rfl (sK [4,7,8,10] rfl)
 ·intro hb6 K6;refine go 4 ?_;exact K6 _ (.cons rfl (sK [4,7,8,10] rfl))
 ·intro hb6 K6;refine go 4 ?_;exact K6 _ (.cons rfl (sK [4,7,8,10] rfl))
 refine go 1 ?_;apply aL (d:=53) (dp:=59) (l':=(Sq.of [17,18,19,20,21,22,23,24,25,26,27,28,29,30,31])) rfl (sK [7,8,10] rfl)
 ·intro hb11 K11;refine go 1 ?_;refine aP (j:=0) (ho:=rfl) (hlt:=by decide) (h:=?_);refine go 4 ?_;exact K11 _ (.cons rfl (sK [7,8,10] rfl))
 ·intro hb11 K11;refine go 6 ?_;exact K11 _ (.cons rfl (sK [7,8,10] rfl))
 refine go 1 ?_;apply aL (d:=60) (dp:=63) (l':=(Sq.of [21,22,23,24,25,26,27,28,29,30,31])) rfl (sK [7,10] rfl)
 ·intro hb18 K18;refine go 3 ?_;exact K18 _ (.cons rfl (sK [7,10] rfl))
 ·intro hb18 K18;refine go 3 ?_;exact K18 _ (.cons rfl (sK [7,10] rfl))
 refine go 1 ?_;apply aL (d:=64) (dp:=69) (l':=(Sq.of [27,28,29,30,31])) rfl (sK [10] rfl)
 ·intro hb22 K22;refine go 1 ?_;refine ar (gunit_any G) (hl:=Lend.inH (x:=rgI G) mQ .nil) (h:=?_);refine ar (gP G.C.B x1.u) (hl:=iE (x:=allI (UL G.C x1)) (dm (List.Mem.head _)) mQ .nil) (h:=?_);refine go 2 ?_;exact K22 _ (.cons rfl (sK [10] rfl))
 ·intro hb22 K22;refine go 5 ?_;exact K22 _ (.cons rfl (sK [10] rfl))
 refine go 1 ?_;apply aL (d:=70) (dp:=73) (l':=(Sq.of [31])) rfl .nil
 ·intro hb28 K28;refine go 3 ?_;exact K28 _ (.cons rfl .nil)
 ·intro hb28 K28;refine go 3 ?_;exact K28 _ (.cons rfl .nil)
 refine go 4 ?_;exact RQ.post (az rfl rfl) (aa _) ⟨by rw[hxn1];rfl,rfl,rfl⟩
theorem topClocks_call(W:World)(seed:B8)(off:Int)(l:Sl ActT)(_:rU8.ok seed)(_:rInt.ok off)(_:rActTs.ok l)(_:∀y∈rU8.its seed,y.A W)(_:∀y∈rInt.its off,y.A W)(tl:∀y∈rActTs.its l,y.A W):
  Calls Tryz.prog 3 #[rU8.val seed,rInt.val off,rActTs.val l] W (fun e w'=>e=.returned (.bool true)∧RowKit.Below W.heap.size W w'):=topClocks_of works_true W seed off l tl
end Go.Proofs.YthlchaldjekokaaGreat
