import Derived.Test.YtkineolcmdecjaaGreatKRd
import Derived.Test.YtkineolcmdecjaaGreatFr0
import Derived.Test.YtkineolcmdecjaaGreatUC
import Derived.Test.YtkineolcmdecjaaGreatE28
import Derived.Test.YtkineolcmdecjaaGreatRD
import Derived.Test.YtkineolcmdecjaaGreatEE
import Derived.Test.YtkineolcmdecjaaGreatRC
import Derived.Test.YtkineolcmdecjaaGreatED
namespace Go.Proofs.YtkineolcmdecjaaGreat
open Go.PK
open Tryz
noncomputable def rBool:Rdr prog 4 Bool:=Rdr.bool (by kernel_rfl) (by kernel_rfl)
noncomputable def rTag:Rdr prog 76 (List B8):=rU8.array 16 1 (by kernel_rfl) (by kernel_rfl) (by kernel_rfl) (List.map U8) (flat_one U8)
set_option maxRecDepth 100000
noncomputable def rFr:Rdr prog 78 FrA:=
 Rdr.struct (fs := [Field.mk "Kind" 3 0 false "" "" 0, Field.mk "Source" 3 1 false "" "" 8, Field.mk "Epoch" 61 2 false "" "" 16, Field.mk "Counter" 32 3 false "" "" 24, Field.mk "Body" 74 4 false "" "" 32, Field.mk "Tag" 76 5 false "" "" 56].toArray) (tot := 21) (α := Int × Int × Int × Int × Sl B8 × List B8 × Unit)
  (by kernel_rfl) (by kernel_rfl)
  (.cons (k:=1) rInt rfl (by kernel_rfl) (by decide) (.cons (k:=1) rInt rfl (by kernel_rfl) (by decide) (.cons (k:=1) rU32 rfl (by kernel_rfl) (by decide) (.cons (k:=1) rU64 rfl (by kernel_rfl) (by decide) (.cons (k:=1) rBytes rfl (by kernel_rfl) (by decide) (.cons (k:=16) rTag rfl (by kernel_rfl) (by decide) .nil))))))
  (fun x=> x.f.cells x.sl) (fun x=> [sls x.p 1 x.f.b.length (bytes x.f.b)]) (fun x=> x.Ok∧wfk .i64 x.f.kd∧wfk .i64 x.f.sr)
  (fun ⟨kd,sr,ep,ct,s,tg,_⟩ h=> by
   obtain ⟨h1,h2,h3,h4,h5,h6, -⟩:=h
   obtain ⟨h6,h6'⟩:=h6
   obtain ⟨h5,h5', -⟩:=h5
   have h5:s.l.length≤s.c:=h5
   have h5':s.c≤maxLen:=h5'
   have hb:=wfk_bounds h3
   have hb:0≤ep∧ep≤4294967295:=hb
   have hc:=wfk_bounds h4
   have hc:0≤ct∧ct≤18446744073709551615:=hc
   refine ⟨⟨⟨kd,sr,ep.toNat,ct.toNat,s.l,tg⟩,s.p,s.c⟩, ?_,⟨⟨⟨by show ep.toNat < _;omega,by show ct.toNat < _;omega,h6⟩,h5,Nat.le_trans h5 h5'⟩,h1,h2⟩, ?_⟩
   ·show _= [Value.int .i64 kd]++([Value.int .i64 sr]++([Value.int .u32 ep]++([Value.int .u64 ct]++([Value.slice s.p s.l.length s.c]++(bytes tg++ [])))))
    simp [Fr.cells,Int.toNat_of_nonneg hb.1,Int.toNat_of_nonneg hc.1]
   ·intro y hy
    rw [List.mem_singleton.1 hy]
    simp [Flds.cons,rBytes,Rdr.slice])
  (fun x h=> fr_len h.1.f.tag _)
noncomputable def rGate:Rdr prog 118 (Int×Int×Int):=
 Rdr.struct (fs := [Field.mk "Open" 25 0 false "" "" 0, Field.mk "Grow" 25 1 false "" "" 8, Field.mk "Most" 25 2 false "" "" 16].toArray) (tot := 3) (α := Int × Int × Int × Unit)
  (by kernel_rfl) (by kernel_rfl)
  (.cons (k:=1) rFix rfl (by kernel_rfl) (by decide) (.cons (k:=1) rFix rfl (by kernel_rfl) (by decide) (.cons (k:=1) rFix rfl (by kernel_rfl) (by decide) .nil)))
  (fun g=> [.int .i64 g.1, .int .i64 g.2.1, .int .i64 g.2.2]) (fun _=> []) (fun g=> i64 g.2.2)
  (fun ⟨a,b,c,_⟩ h=> ⟨⟨a,b,c⟩,rfl,wfk_bounds h.2.2.1,by simp⟩)
  (fun _ _=> rfl)
structure Wt.Fit (x:Wt):Prop where
 mo:i64 x.mo
 sl:i64 x.sl
 gm:i64 x.gm
noncomputable def rWt:Rdr prog 120 Wt:=
 Rdr.struct (fs := [Field.mk "Gate" 118 0 false "" "" 0, Field.mk "Slack" 25 3 false "" "" 24, Field.mk "Most" 25 4 false "" "" 32, Field.mk "Same" 3 5 false "" "" 40, Field.mk "Rate" 25 6 false "" "" 48, Field.mk "Bad" 3 7 false "" "" 56, Field.mk "Hold" 3 8 false "" "" 64, Field.mk "Prove" 3 9 false "" "" 72].toArray) (tot := 10) (α := (Int × Int × Int) × Int × Int × Int × Int × Int × Int × Int × Unit)
  (by kernel_rfl) (by kernel_rfl)
  (.cons (k:=3) rGate rfl (by kernel_rfl) (by decide) (.cons (k:=1) rFix rfl (by kernel_rfl) (by decide) (.cons (k:=1) rFix rfl (by kernel_rfl) (by decide) (.cons (k:=1) rInt rfl (by kernel_rfl) (by decide) (.cons (k:=1) rFix rfl (by kernel_rfl) (by decide) (.cons (k:=1) rInt rfl (by kernel_rfl) (by decide) (.cons (k:=1) rInt rfl (by kernel_rfl) (by decide) (.cons (k:=1) rInt rfl (by kernel_rfl) (by decide) .nil))))))))
  Wt.cells (fun _=> []) Wt.Fit
  (fun ⟨⟨a,b,c⟩,sl,mo,sa,ra,ba,ho,pr,_⟩ h=> ⟨⟨a,b,c,sl,mo,sa,ra,ba,ho,pr⟩,rfl,⟨wfk_bounds h.2.2.1,wfk_bounds h.2.1,h.1⟩,by simp⟩)
  (fun _ _=> rfl)
noncomputable def rSch:Rdr prog 29 Sch:=
 Rdr.struct (fs := [Field.mk "Start" 3 0 false "" "" 0, Field.mk "Length" 3 1 false "" "" 8, Field.mk "Lag" 3 2 false "" "" 16, Field.mk "Off" 3 3 false "" "" 24].toArray) (tot := 4) (α := Int × Int × Int × Int × Unit)
  (by kernel_rfl) (by kernel_rfl)
  (.cons (k:=1) rInt rfl (by kernel_rfl) (by decide) (.cons (k:=1) rInt rfl (by kernel_rfl) (by decide) (.cons (k:=1) rInt rfl (by kernel_rfl) (by decide) (.cons (k:=1) rInt rfl (by kernel_rfl) (by decide) .nil))))
  Sch.cells (fun _=> []) (fun _=> True)
  (fun ⟨a,b,c,d,_⟩ _=> ⟨⟨a,b,c,d⟩,rfl,trivial,by simp⟩)
  (fun _ _=> rfl)
noncomputable def rSr:Rdr prog 122 Sr:=
 Rdr.struct (fs := [Field.mk "ID" 3 0 false "" "" 0, Field.mk "Kind" 3 1 false "" "" 8, Field.mk "Root" 31 2 false "" "" 16, Field.mk "Weight" 3 34 false "" "" 48, Field.mk "Gain" 3 35 false "" "" 56, Field.mk "Step" 25 36 false "" "" 64, Field.mk "Horizon" 3 37 false "" "" 72, Field.mk "Watch" 120 38 false "" "" 80].toArray) (tot := 48) (α := Int × Int × List B8 × Int × Int × Int × Int × Wt × Unit)
  (by kernel_rfl) (by kernel_rfl)
  (.cons (k:=1) rInt rfl (by kernel_rfl) (by decide) (.cons (k:=1) rInt rfl (by kernel_rfl) (by decide) (.cons (k:=32) rKey rfl (by kernel_rfl) (by decide) (.cons (k:=1) rInt rfl (by kernel_rfl) (by decide) (.cons (k:=1) rInt rfl (by kernel_rfl) (by decide) (.cons (k:=1) rFix rfl (by kernel_rfl) (by decide) (.cons (k:=1) rInt rfl (by kernel_rfl) (by decide) (.cons (k:=10) rWt rfl (by kernel_rfl) (by decide) .nil))))))))
  Sr.cells (fun _=> []) Sr.Fit
  (fun ⟨id,kd,k,w,g,st,hz,wt,_⟩ h=> by
   obtain ⟨h1,h2,h3,h4,h5,h6,h7,h8, -⟩:=h
   have h8:Wt.Fit wt:=h8
   refine ⟨⟨id,kd,k,w,g,st,hz,wt⟩, ?_,⟨h3.1,h8.mo,h8.sl,h8.gm⟩,by simp⟩
   show _= [Value.int .i64 id]++([Value.int .i64 kd]++(bytes k++([Value.int .i64 w]++([Value.int .i64 g]++([Value.int .i64 st]++([Value.int .i64 hz]++(wt.cells++ [])))))))
   simp [Sr.cells,Sr.tl])
  (fun _ h=> sr_len h.rt)
noncomputable def rSrs:Rdr prog 24 (Sl Sr):=rSr.slice 48 (by kernel_rfl) (by kernel_rfl) (by kernel_rfl) (by decide) (fun l=> l.flatMap Sr.cells) (fun _=> rfl)
structure CfA where
 c:Cf
 p:Option Addr
 cap:Nat
structure CfA.Ok (x:CfA):Prop where
 f:x.c.Fit
 l:x.c.L.length≤x.cap
 b:x.c.L.length≤maxLen
abbrev CfA.sl (x:CfA):Value:= .slice x.p x.c.L.length x.cap
noncomputable def rCf:Rdr prog 34 CfA:=
 Rdr.struct (fs := [Field.mk "Sources" 24 0 false "" "" 0, Field.mk "Gravity" 27 1 false "" "" 24, Field.mk "Drift" 25 4 false "" "" 48, Field.mk "Slot" 29 5 false "" "" 56, Field.mk "Commit" 31 9 false "" "" 88, Field.mk "Most" 3 41 false "" "" 120, Field.mk "Time" 3 42 false "" "" 128, Field.mk "Grace" 3 43 false "" "" 136, Field.mk "Stride" 32 44 false "" "" 144].toArray) (tot := 45) (α := Sl Sr × List Int × Int × Sch × List B8 × Int × Int × Int × Int × Unit)
  (by kernel_rfl) (by kernel_rfl)
  (.cons (k:=1) rSrs rfl (by kernel_rfl) (by decide) (.cons (k:=3) rVec rfl (by kernel_rfl) (by decide) (.cons (k:=1) rFix rfl (by kernel_rfl) (by decide) (.cons (k:=4) rSch rfl (by kernel_rfl) (by decide) (.cons (k:=32) rKey rfl (by kernel_rfl) (by decide) (.cons (k:=1) rInt rfl (by kernel_rfl) (by decide) (.cons (k:=1) rInt rfl (by kernel_rfl) (by decide) (.cons (k:=1) rInt rfl (by kernel_rfl) (by decide) (.cons (k:=1) rU64 rfl (by kernel_rfl) (by decide) .nil)))))))))
  (fun x=> x.c.cells x.sl) (fun x=> [sls x.p 48 x.c.L.length (x.c.L.flatMap Sr.cells)]) CfA.Ok
  (fun ⟨s,v,dr,sc,cm,mo,ti,gr,sd,_⟩ h=> by
   obtain ⟨⟨h1,h1', -,h1f⟩,h2,h3,h4,h5,h6,h7,h8,h9, -⟩:=h
   have h1:s.l.length≤s.c:=h1
   have h1':s.c≤maxLen:=h1'
   obtain ⟨a,b,c,rfl⟩:∃a b c,v= [a,b,c]:=by
    have:v.length=3:=h2.1
    match v,this with
    | [a,b,c],_=> exact ⟨a,b,c,rfl⟩
   refine ⟨⟨⟨a,b,c,dr,sc,cm,mo,ti,gr,sd,s.l⟩,s.p,s.c⟩, ?_,⟨⟨h5.1,h1f⟩,h1,Nat.le_trans h1 h1'⟩, ?_⟩
   ·show _= [Value.slice s.p s.l.length s.c]++([Value.int .i64 a,Value.int .i64 b,Value.int .i64 c]++([Value.int .i64 dr]++(sc.cells++(bytes cm++([Value.int .i64 mo]++([Value.int .i64 ti]++([Value.int .i64 gr]++([Value.int .u64 sd]++ []))))))))
    simp [Cf.cells,Cf.tl,Sch.cells,CfA.sl]
   ·intro y hy
    rw [List.mem_singleton.1 hy]
    simp [Flds.cons,rSrs,Rdr.slice])
  (fun x h=> cf_len h.f.cm _)
noncomputable def rActs33:Rdr prog 22 (Sl Act33):=rAct33.slice 61 (by kernel_rfl) (by kernel_rfl) (by kernel_rfl) (by decide) (List.flatMap Act33.cells) (fun _=> rfl)
end Go.Proofs.YtkineolcmdecjaaGreat
namespace Go.Proofs.YtkineolcmdecjaaGreat
open Go.PK
open Tryz
def Cf.com (c:Cf) (k:List B8):Cf:=⟨c.g0,c.g1,c.g2,c.dr,c.sc,k,c.mo,c.ti,c.gr,c.sd,c.L⟩
theorem com_len (k:List B8) (hk:k.length=32) (n:Int):(comV k n).1.length=32:=by
 unfold comV;split
 ·exact nextN_len hk _
 ·rfl
theorem saidB_map {l l':List FrO} (h:l.map FrO.f=l'.map FrO.f) (f:Fr):saidB l f=saidB l' f:=by
 have e:∀l:List FrO,saidB l f=(l.map FrO.f).any fun g=> decide (f.hd=g.hd) && (g.b==f.b):=fun l=> by rw [saidB,List.any_map];rfl
 rw [e,e,h]
theorem few_all60 {p:Option Addr} {c:Nat}:(if c=0 then p else p.map (·.add (0*1)))=p:=by
 cases p with
 | none=> split <;> rfl
 | some a=> split <;> simp [Addr.add]
theorem few60 (n:Nat):min (n:Int) 60=((min n 60:Nat):Int):=by omega
theorem Lies.ownS {ob:Option Nat} {cap sz n:Nat} {e:TypeId} {xs:List Value}:Lies (own ob cap e sz n xs) (sls (ob.map fun b=> ⟨b,0,none⟩) sz n xs):=
 ⟨fun _ h=> own_sls h,fun c hc=> by by_cases hn:n=0 <;> cases ob <;> simp_all [PK.sls,PK.own]⟩
theorem Rds.lieF {I H:List It} {x:It} {b cap n i sz:Nat} {T:TypeId} {α:Type} {g:α→List Value} {R:List α} {r:α} (hm:x∈H) (hl:Lies x (own (some b) cap T sz n (R.flatMap g))) (hi:R[i]? =some r) (hR:∀y∈R,(g y).length=sz):Rds I H ⟨b,0+i*sz,none⟩ (g r):=fun w hw=> by
 have h0:(own (some b) cap T sz n (R.flatMap g)).A w:=hl.A w (hw.h _ hm)
 have hs:Sat [] [own (some b) cap T sz n (R.flatMap g)] w:=⟨by simp,by simpa using h0,by simp [PK.own],by simp⟩
 exact own_rds (f:=g) (I:= []) (List.Mem.head _) hi hR w hs
def Fr.odd (f:Fr):Fr:=⟨f.kd,f.sr,f.ep,f.ct,f.b,f.tag.set 7 (f.tag.getD 7 0#8^^^1#8)⟩
theorem odd_num {f:Fr} (h:f.Num):f.odd.Num:=⟨⟨h.ok.ep,h.ok.ct,by show (f.tag.set 7 _).length=16;rw [List.length_set];exact h.ok.tag⟩,h.kd,h.sr⟩
theorem odd_rd {f:Fr} (h:f.tag.length=16) (sl:Value):(f.cells sl)[0+5+7*1]? =some (U8 (f.tag.getD 7 0#8)):=by
 have:f.tag[7]? =some (f.tag.getD 7 0#8):=by rw [List.getD_eq_getElem?_getD,List.getElem?_eq_getElem (by omega)];rfl
 rw [show 0+5+7*1=0+5+7 from rfl]
 exact fr_tag f sl 7 _ (by rw [List.getElem?_map,this];rfl)
theorem odd_set {f:Fr} (h:f.tag.length=16) (sl:Value):spl (f.cells sl) (0+5+7*1) [U8 (f.tag.getD 7 0#8^^^1#8)]=f.odd.cells sl:=by
 have e:∀g:Fr,g.cells sl= [.int .i64 g.kd, .int .i64 g.sr, .int .u32 (g.ep:Int), .int .u64 (g.ct:Int),sl]++bytes g.tag:=fun _=> rfl
 rw [e,e,show 0+5+7*1= [Value.int .i64 f.kd, .int .i64 f.sr, .int .u32 (f.ep:Int), .int .u64 (f.ct:Int),sl].length+7 from rfl,spl_app,spl_set (by rw [List.length_map];omega)]
 show _=_++List.map U8 (f.tag.set 7 (f.tag.getD 7 0#8^^^1#8))
 rw [List.map_set];rfl
theorem mark_off {z:Crw} (h:z.Ok) {n:Int} (hn: ¬(0≤n∧n≤7)):markV z.T n=(0,0):=by
 rw [markV]
 cases hx:atT z.T n with
 | none=> rfl
 | some x=>
  have hxm:=List.mem_of_find?_eq_some hx
  have hxi:n=x.s.id:=by simpa using List.find?_some hx
  have:=(h.L x.s (h.T x hxm).1).2
  omega
theorem act33_flat:∀a:Act33,a.cells.length=61:=fun _=> rfl
theorem eplays (c:Cf) (pa:Option Addr) (ca m:Nat) (k:List B8) (n:Int) (keep:Bool) (pA:Option Addr) (cA nA:Nat) (L:List Act33) (f:Fr) (q:Option Addr) (cq nq:Nat) (hc:c.Fit) (hm:c.L.length=m) (hca:m≤ca) (hmb:m≤maxLen) (hk:k.length=32) (hnA:L.length=nA) (hnb:nA≤maxLen) (hL:∀a∈L,a.Ok) (hf:f.Num) (hnq:f.b.length=nq) (hcq:nq≤cq) (hqb:nq≤maxLen):
  Spc prog 5 #[.agg (c.cells (.slice pa m ca)).toArray, .agg (bytes k).toArray, .int .i64 n, .bool keep, .slice pA nA cA, .agg (f.cells (.slice q nq cq)).toArray]
   [sls pa 48 m (c.L.flatMap Sr.cells),sls pA 61 nA (L.flatMap Act33.cells),sls q 1 nq (bytes f.b)] [] (Is (.bool true)):=by
 subst hm
 subst hnA
 subst hnq
 have h45:=fun (c:Cf) (sl:Value) (h:c.cm.length=32)=> cf_len h sl
 have h45a:=h45 c (.slice pa c.L.length ca) hc.cm
 have hLl:∀s∈c.L,s.cells.length=48:=fun s hs=> sr_len (hc.L s hs).rt
 have hfl:c.few.L.length≤12:=by show (c.L.take 12).length≤12;rw [List.length_take];omega
 have hff:c.few.Fit:=⟨hc.cm,fun s hs=> hc.L s (List.mem_of_mem_take hs)⟩
 have hk2:(bytes k).length=32:=by rw [List.length_map,hk]
 refine Spc.enter func5 rfl rfl rfl (fun w0 hw0=> ?_)
 refine CW.seq (CW.region (ef:= [0,1,2]) (bk:= []) (RL.box rfl rfl rfl rfl ?_))
 intro b1
 refine RL.box rfl rfl rfl rfl ?_
 intro b2
 refine RL.box rfl rfl rfl rfl ?_
 intro b3
 refine RL.pn rfl (CW.seq (CW.region (ef:= [1,2]) (bk:= [2]) (RL.loadSq isAgg34 sizeOf34 rfl rfl ?_)))
 refine RL.call (lfew_any c pa ca _ hc.cm hLl rfl hca (by omega)) call26 rfl rfl rfl pE (.inI mQ .nil) (.inl rfl) ?_
 rintro _ _ _ ⟨so,sc,rfl,rfl,rfl⟩
 refine RL.storeW sizeOf34 rfl rfl rfl rfl rfl rfl (cf_ones _ rfl) uE (h45 _ _ hc.cm) h45a ?_
 refine RL.ns (CW.ok [2,3,4,6,7,11] rfl (CW.seq (CW.sr (RL.q rfl (RL.p rfl ?_)))))
 apply RL.andB (d:=32) (dp:=35) (l':=(Sq.of [])) rfl (sK [2,3,4,6,7,11] rfl)
 ·
  intro hb3 K3
  refine RL.q rfl (RL.p rfl ?_)
  exact K3 _ (.cons rfl (sK [2,3,4,6,7,11] rfl))
 ·
  intro hb3 K3
  refine RL.q rfl (RL.p rfl ?_)
  exact K3 _ (.cons rfl (sK [2,3,4,6,7,11] rfl))
 refine RL.ns ?_
 refine CW.cutG (γ:=Int) (fun _=> True) (fun g=> [(2, .int .i64 g),(3, .bool keep),(4, .slice pA L.length cA),(6, .pointer (some ⟨b1,0,none⟩)),(7, .pointer (some ⟨b2,0,none⟩)),(11, .pointer (some ⟨b3,0,none⟩))]) (fun _=> [sls pa 48 c.L.length (c.L.flatMap Sr.cells),sls pA 61 L.length (L.flatMap Act33.cells),sls q 1 f.b.length (bytes f.b)]) (fun _=> [cel b1 (c.few.cells (slO so c.few.L.length sc)) 34,own so sc 122 48 c.few.L.length (c.few.L.flatMap Sr.cells),cel b2 (bytes k) 31,cel b3 (f.cells (.slice q f.b.length cq)) 78]) ?_ ?_
 ·
  refine CW.cond rfl (fun h1=> ?_) (fun h1=> ?_)
  ·
   refine CW.rg (RL.p rfl (RL.rem rfl rfl rfl (by decide) ?_))
   refine RL.p rfl (RL.nil ?_)
   exact NQ.midG _ trivial sE (fun w h=> h.rea (fun _ h=> h) rE)
  ·
   refine CW.skip ?_
   exact NQ.midG _ trivial sE (fun w h=> h.rea (fun _ h=> h) rE)
 rintro n1 -
 refine CW.seq (CW.sr (RL.pn rfl ?_))
 have hcom:=rcom_any k hk n1
 have hcl:=com_len k hk n1
 have hcl2:(bytes (comV k n1).1).length=32:=by rw [List.length_map,hcl]
 refine CW.cutG (γ:=List B8) (fun g=> g.length=32) (fun _=> [(2, .int .i64 n1),(4, .slice pA L.length cA),(6, .pointer (some ⟨b1,0,none⟩)),(7, .pointer (some ⟨b2,0,none⟩)),(11, .pointer (some ⟨b3,0,none⟩))]) (fun _=> [sls pa 48 c.L.length (c.L.flatMap Sr.cells),sls pA 61 L.length (L.flatMap Act33.cells),sls q 1 f.b.length (bytes f.b)]) (fun g=> [cel b1 ((c.few.com g).cells (slO so c.few.L.length sc)) 34,own so sc 122 48 c.few.L.length (c.few.L.flatMap Sr.cells),cel b2 (bytes k) 31,cel b3 (f.cells (.slice q f.b.length cq)) 78]) ?_ ?_
 ·
  refine CW.cond rfl (fun h1=> ?_) (fun h1=> ?_)
  ·
   refine CW.region (ef:= [7]) (bk:= [7]) (RL.loadW isAgg31 sizeOf31 rfl rfl mQ hk2 ?_)
   refine RL.p rfl (RL.callvq (hcom) call27 rfl rfl ?_)
   refine RL.q rfl (RL.p rfl (RL.fa fa_34_4 rfl (RL.storeX (vs:=bytes (comV k n1).1) (set_cm c.few _ hc.cm hcl) (by rw [hcl2];exact sizeOf31) rfl rfl rfl rfl rfl rfl (ones_map one8 _) uE (by rw [h45 c.few _ hc.cm,hcl2];decide) ?_)))
   refine RL.nil ?_
   exact NQ.midG (comV k n1).1 hcl sE (fun w h=> h.rea (fun _ h=> h) rE)
  ·
   refine CW.skip ?_
   exact NQ.midG c.few.cm hc.cm sE (fun w h=> h.rea (fun _ h=> h) rE)
 intro cm hcm
 have hC1:(c.few.com cm).Fit:=⟨hcm,hff.L⟩
 have hCL:(c.few.com cm).L.length≤12:=hfl
 have hLe:c.few.L=(c.few.com cm).L:=rfl
 rw [hLe]
 generalize c.few.com cm=C at hC1 hCL
 clear hLe hff hfl hLl h45a
 have h45C:=h45 C (slO so C.L.length sc) hC1.cm
 have hec:=ecom_any k hk n1
 refine CW.seq (CW.region (ef:= [2,6,7]) (bk:= [7]) (RL.loadSq isAgg31 sizeOf31 rfl rfl ?_))
 refine RL.p rfl ?_
 have hby:=OwnB.n (show (f.b.take 60).length=min f.b.length 60 by rw [List.length_take];omega) (bytes_any q cq (f.b.take 60) (by rw [List.length_take];omega))
 rw [show (f.b.take 60).length=min f.b.length 60 by rw [List.length_take];omega] at hby
 have hle:∀F:List It,Lend [sls pa 48 c.L.length (c.L.flatMap Sr.cells),sls pA 61 L.length (L.flatMap Act33.cells),sls q 1 f.b.length (bytes f.b)] F [sls q 1 (min f.b.length 60) (bytes (f.b.take 60))]:=fun F=> by
  have:=Lend.takeB (I:= [sls pa 48 c.L.length (c.L.flatMap Sr.cells),sls pA 61 L.length (L.flatMap Act33.cells),sls q 1 f.b.length (bytes f.b)]) (F:=F) (p:=q) (c:=cq) (k:=60) (m:=f.b) mQ hcq .nil
  rw [few_all60,show (f.b.take 60).length=min f.b.length 60 by rw [List.length_take];omega] at this
  exact this
 have hfl:=fun sl=> fr_len hf.ok.tag sl
 refine RL.callvq (hec) call28 rfl rfl ?_
 refine RL.q rfl (RL.p rfl (RL.alloc (cs:=List.replicate 32 (U8 0#8)) zeroValue31 rfl rfl rfl ?_))
 intro b4
 refine RL.storeW sizeOf31 rfl rfl rfl rfl rfl rfl (ones_map one8 _) uE hcl2 rfl ?_
 refine RL.pn rfl (CW.ok [2,4,6,7,11,13,14] rfl (CW.seq (CW.region (ef:= [6,7]) (bk:= [7]) (RL.loadW isAgg31 sizeOf31 rfl rfl mQ hk2 ?_))))
 refine RL.p rfl (RL.callvq (hcom) call27 rfl rfl ?_)
 refine RL.q rfl (RL.p rfl (RL.alloc (cs:=List.replicate 32 (U8 0#8)) zeroValue31 rfl rfl rfl ?_))
 intro b5
 refine RL.storeW sizeOf31 rfl rfl rfl rfl rfl rfl (ones_map one8 _) uE hcl2 rfl ?_
 refine RL.pn rfl (CW.ok [2,4,6,7,11,13,14,15,16] rfl (CW.seq (CW.region (ef:= [3]) (bk:= []) (RL.loadW isAgg34 sizeOf34 rfl rfl mQ h45C ?_))))
 refine RL.loadW isAgg31 sizeOf31 rfl rfl mQ hk2 ?_
 refine RL.p rfl (RL.call (eNew_any C so sc _ k n1 hC1 rfl (by omega) hk) call8 rfl rfl rfl pE (Lend.own mQ .nil) (.inl rfl) ?_)
 rintro _ _ _ ⟨rfl,⟨hE,rfl,rfl⟩ | ⟨hE,z,rfl,rfl,hz⟩⟩
 ·
  refine RL.q rfl (RL.p rfl (RL.qn rfl (CW.ok [2,4,6,7,11,13,14,15,16,17,18] rfl (CW.seq (CW.regionD (Sq.of [0,2,3,1,4,5,6,7,8,9]) [1,4] [] [3,5,6,7,8,9] mixed (by kernel_rfl) ?_)))))
  refine RL.loadW isAgg34 sizeOf34 rfl rfl mQ h45C ?_
  refine RL.loadW isAgg31 sizeOf31 rfl rfl mQ hk2 ?_
  refine RL.p rfl (RL.call (lplain_any C so sc _ rfl hC1.cm (fun s hs=> (hC1.L s hs).rt) (by omega)) call11 rfl rfl rfl pE (Lend.own mQ .nil) (.inl rfl) ?_)
  rintro _ _ _ ⟨oa,ca2,rfl,rfl,rfl⟩
  refine RL.call (rNew_any C oa ca2 _ k n1 hC1 rfl (by omega) hk) call10 rfl rfl rfl pE (Lend.own mQ .nil) (.inl rfl) ?_
  rintro _ _ _ ⟨rfl,⟨-,rfl,rfl⟩ | ⟨hE', -⟩⟩
  ·
   refine RL.q rfl (RL.p rfl (RL.qn rfl (CW.ok [4,11,13,14,15,16,17,18,19,20] rfl (CW.seq (CW.sr (RL.loadW isAgg31 sizeOf31 rfl rfl mQ hcl2 ?_))))))
   refine RL.loadW isAgg31 sizeOf31 rfl rfl mQ hcl2 ?_
   refine RL.cmp rfl rfl rfl (key_ne _ _ hcl hcl _ _) (RL.p rfl ?_)
   apply RL.orB (d:=76) (dp:=80) (l':=(Sq.of [8,9,10,11,12,13,14,15,16,17,18,19])) rfl (sK [4,11,17,18,19,20] rfl)
   ·
    intro hb4 K4
    refine RL.q rfl (RL.q rfl ?_)
    exact K4 _ (.cons rfl (sK [4,11,17,18,19,20] rfl))
   ·
    intro hb4 K4
    refine RL.q rfl (RL.q rfl ?_)
    exact K4 _ (.cons rfl (sK [4,11,17,18,19,20] rfl))
   refine RL.p rfl ?_
   apply RL.orB (d:=81) (dp:=85) (l':=(Sq.of [13,14,15,16,17,18,19])) rfl (sK [4,11,17,19] rfl)
   ·
    intro hb9 K9
    refine RL.q rfl (RL.q rfl ?_)
    exact K9 _ (.cons rfl (sK [4,11,17,19] rfl))
   ·
    intro hb9 K9
    refine RL.q rfl (RL.q rfl ?_)
    exact K9 _ (.cons rfl (sK [4,11,17,19] rfl))
   refine RL.p rfl ?_
   apply RL.orB (d:=86) (dp:=92) (l':=(Sq.of [])) rfl (sK [4,11,17,19] rfl)
   ·
    intro hb14 K14
    refine RL.p rfl (RL.cmp rfl rfl rfl (eql_ptr runUnderlying36 _) (RL.p rfl (RL.cmp rfl rfl rfl (eql_ptr runUnderlying41 _) (RL.cmp rfl rfl rfl (neq_bool runUnderlying4 _ _) (RL.p rfl ?_)))))
    exact K14 _ (.cons rfl (sK [4,11,17,19] rfl))
   ·
    intro hb14 K14
    refine RL.q rfl (RL.q rfl (RL.q rfl ?_))
    exact K14 _ (.cons rfl (sK [4,11,17,19] rfl))
   refine RL.ns (CW.condF rfl ((by simp)) ?_)
   refine CW.sn (CW.seq (CW.region (ef:= [7,9]) (bk:= [9]) (RL.fa fa_78_4 rfl (RL.load isAgg74 rfl rfl (Rd.get (v:= .slice q f.b.length cq) mQ rfl) ?_))))
   refine RL.fa fa_78_4 rfl (RL.load isAgg74 rfl rfl (Rd.get (v:= .slice q f.b.length cq) mQ rfl) ?_)
   refine RL.lenS runUnderlying74 rfl rfl (RL.min rfl rfl rfl ?_)
   rw [few60]
   refine RL.slice (lo:=0) (hi:=min f.b.length 60) runUnderlying74 sizeOf5 rfl rfl rfl rfl (by omega) (by omega) ?_
   rw [few_all60,Nat.sub_zero,Nat.sub_zero]
   refine RL.call (hby) call29 rfl rfl rfl pE (hle _) (.inl rfl) ?_
   rintro _ _ _ ⟨fo,fc,rfl,rfl,rfl, -⟩
   refine RL.fa fa_78_4 rfl (RL.storeX (vs:= [_]) (fr_sl f _ _) sizeOf74 rfl rfl rfl rfl rfl rfl rfl uE (by rw [hfl];show 0+4+1≤21;decide) ?_)
   refine RL.ns (CW.ok [4,11,17,19] rfl (CW.seq (CW.sr (RL.pn rfl (CW.block (CW.loop (γ:=Unit) (fun _=> True) (fun _=> [(4, .slice pA L.length cA),(11, .pointer (some ⟨b3,0,none⟩)),(17, .pointer none),(19, .pointer none),(21, .int .i64 0)]) (fun _=> [sls pa 48 c.L.length (c.L.flatMap Sr.cells),sls pA 61 L.length (L.flatMap Act33.cells),sls q 1 f.b.length (bytes f.b)]) (fun _=> []) (fun _=> 0) () trivial sE (fun w h=> h.rea (fun _ h=> h) .nil) ?_))))))
   rintro _ _
   refine CW.seq (CW.sr (RL.q rfl (RL.lenS runUnderlying22 rfl rfl (RL.q rfl ?_))))
   apply RL.andB (d:=106) (dp:=109) (l':=(Sq.of [8,9,10,11])) rfl (sK [4,11,17,19,21] rfl)
   ·
    intro hb5 K5
    refine RL.q rfl (RL.p rfl ?_)
    exact K5 _ (.cons rfl (sK [4,11,17,19,21] rfl))
   ·
    intro hb5 K5
    refine RL.q rfl (RL.p rfl ?_)
    exact K5 _ (.cons rfl (sK [4,11,17,19,21] rfl))
   refine RL.p rfl ?_
   apply RL.andB (d:=110) (dp:=113) (l':=(Sq.of [])) rfl (sK [4,11,17,19,21] rfl)
   ·
    intro hb9 K9
    refine RL.p rfl (RL.cmp rfl rfl rfl (neq_ptr runUnderlying41 _) (RL.p rfl ?_))
    exact K9 _ (.cons rfl (sK [4,11,17,19,21] rfl))
   ·
    intro hb9 K9
    refine RL.q rfl (RL.p rfl ?_)
    exact K9 _ (.cons rfl (sK [4,11,17,19,21] rfl))
   refine RL.ns (CW.condF rfl ((by simp)) ?_)
   refine CW.exit (XQ.seq (XQ.seq (XQ.hit (NQ.seq (CW.ok [] rfl (CW.sr (RL.callvq (works33) call6 rfl rfl ?_)))))))
   refine RL.pn rfl (CW.ret ?_)
   exact RQ.post (res1 rfl rfl) (Split.none _) ⟨rfl,rfl,rfl⟩
  ·exact absurd hE' hE
 ·
  refine RL.q rfl (RL.p rfl (RL.qn rfl (CW.ok [2,4,6,7,11,13,14,15,16,17,18] rfl (CW.seq (CW.regionD (Sq.of [0,2,3,1,4,5,6,7,8,9]) [1,4] [] [3,5,6,7,8,9] mixed (by kernel_rfl) ?_)))))
  refine RL.loadW isAgg34 sizeOf34 rfl rfl mQ h45C ?_
  refine RL.loadW isAgg31 sizeOf31 rfl rfl mQ hk2 ?_
  refine RL.p rfl (RL.call (lplain_any C so sc _ rfl hC1.cm (fun s hs=> (hC1.L s hs).rt) (by omega)) call11 rfl rfl rfl pE (Lend.own mQ .nil) (.inl rfl) ?_)
  rintro _ _ _ ⟨oa,ca2,rfl,rfl,rfl⟩
  refine RL.call (rNew_any C oa ca2 _ k n1 hC1 rfl (by omega) hk) call10 rfl rfl rfl pE (Lend.own mQ .nil) (.inl rfl) ?_
  rintro _ _ _ ⟨rfl,⟨hE', -, -⟩ | ⟨-,y,rfl,rfl,hy⟩⟩
  ·exact absurd hE hE'
  ·
   refine RL.q rfl (RL.p rfl (RL.qn rfl (CW.ok [4,11,13,14,15,16,17,18,19,20] rfl (CW.seq (CW.sr (RL.loadW isAgg31 sizeOf31 rfl rfl mQ hcl2 ?_))))))
   refine RL.loadW isAgg31 sizeOf31 rfl rfl mQ hcl2 ?_
   refine RL.cmp rfl rfl rfl (key_ne _ _ hcl hcl _ _) (RL.p rfl ?_)
   apply RL.orB (d:=76) (dp:=80) (l':=(Sq.of [8,9,10,11,12,13,14,15,16,17,18,19])) rfl (sK [4,11,17,18,19,20] rfl)
   ·
    intro hb4 K4
    refine RL.q rfl (RL.q rfl ?_)
    exact K4 _ (.cons rfl (sK [4,11,17,18,19,20] rfl))
   ·
    intro hb4 K4
    refine RL.q rfl (RL.q rfl ?_)
    exact K4 _ (.cons rfl (sK [4,11,17,18,19,20] rfl))
   refine RL.p rfl ?_
   apply RL.orB (d:=81) (dp:=85) (l':=(Sq.of [13,14,15,16,17,18,19])) rfl (sK [4,11,17,19] rfl)
   ·
    intro hb9 K9
    refine RL.q rfl (RL.q rfl ?_)
    exact K9 _ (.cons rfl (sK [4,11,17,19] rfl))
   ·
    intro hb9 K9
    refine RL.q rfl (RL.q rfl ?_)
    exact K9 _ (.cons rfl (sK [4,11,17,19] rfl))
   refine RL.p rfl ?_
   apply RL.orB (d:=86) (dp:=92) (l':=(Sq.of [])) rfl (sK [4,11,17,19] rfl)
   ·
    intro hb14 K14
    refine RL.p rfl (RL.cmp rfl rfl rfl (eql_ptr runUnderlying36 _) (RL.p rfl (RL.cmp rfl rfl rfl (eql_ptr runUnderlying41 _) (RL.cmp rfl rfl rfl (neq_bool runUnderlying4 _ _) (RL.p rfl ?_)))))
    exact K14 _ (.cons rfl (sK [4,11,17,19] rfl))
   ·
    intro hb14 K14
    refine RL.q rfl (RL.q rfl (RL.q rfl ?_))
    exact K14 _ (.cons rfl (sK [4,11,17,19] rfl))
   refine RL.ns (CW.condF rfl ((by simp)) ?_)
   refine CW.sn (CW.seq (CW.region (ef:= [7,9]) (bk:= [9]) (RL.fa fa_78_4 rfl (RL.load isAgg74 rfl rfl (Rd.get (v:= .slice q f.b.length cq) mQ rfl) ?_))))
   refine RL.fa fa_78_4 rfl (RL.load isAgg74 rfl rfl (Rd.get (v:= .slice q f.b.length cq) mQ rfl) ?_)
   refine RL.lenS runUnderlying74 rfl rfl (RL.min rfl rfl rfl ?_)
   rw [few60]
   refine RL.slice (lo:=0) (hi:=min f.b.length 60) runUnderlying74 sizeOf5 rfl rfl rfl rfl (by omega) (by omega) ?_
   rw [few_all60,Nat.sub_zero,Nat.sub_zero]
   refine RL.call (hby) call29 rfl rfl rfl pE (hle _) (.inl rfl) ?_
   rintro _ _ _ ⟨fo,fc,rfl,rfl,rfl, -⟩
   refine RL.fa fa_78_4 rfl (RL.storeX (vs:= [_]) (fr_sl f _ _) sizeOf74 rfl rfl rfl rfl rfl rfl rfl uE (by rw [hfl];show 0+4+1≤21;decide) ?_)
   refine RL.ns (CW.ok [4,11,17,19] rfl (CW.seq (CW.sr (RL.pn rfl (CW.block ?_)))))
   have hal0:=new_alike (err_zero (show C.err=0 by
    unfold newE at hE
    split at hE
    ·next h=> exact absurd hE h
    ·next h=> exact Classical.not_not.1 h)) hz hy
   have hyc0:=hy.cf
   have hyo0:=hy.oa
   have hya0:=hy.ca
   have hl0:z.l.length=0:=by rw [hz.l];rfl
   clear hz hy hby hle hec hcom
   have hn60:(f.few 60).b.length=min f.b.length 60:=by show (f.b.take 60).length=_;rw [List.length_take];omega
   have hf1:(f.few 60).Num:=⟨⟨hf.ok.ep,hf.ok.ct,hf.ok.tag⟩,hf.kd,hf.sr⟩
   have hfb:(f.few 60).b.length≤60:=by omega
   rw [show f.cells (slO fo (min f.b.length 60) fc)=(f.few 60).cells (slO fo (f.few 60).b.length fc) by rw [hn60];rfl,show (f.b.take 60)=(f.few 60).b from rfl,←hn60]
   generalize f.few 60=g at hf1 hfb hn60
   clear hn60
   have h21g:=fr_len hf1.ok.tag (slO fo g.b.length fc)
   refine CW.rea (fun _ h=> h) (H':= [own fo fc 5 1 g.b.length (bytes g.b),own oa ca2 59 48 C.L.length (C.L.flatMap Sr.cells),cel b3 (g.cells (slO fo g.b.length fc)) 78,crwI z,rcrI y]) rE ?_
   refine CW.freezeP (A:= [own fo fc 5 1 g.b.length (bytes g.b),own oa ca2 59 48 C.L.length (C.L.flatMap Sr.cells),cel b3 (g.cells (slO fo g.b.length fc)) 78]) (B:= [crwI z,rcrI y]) pE rfl ?_
   refine CW.sub (Lies.ownS (ob:=oa) (cap:=ca2) (e:=59)) (List.Mem.tail _ (List.Mem.head _)) (CW.sub (Lies.ownS (ob:=fo) (cap:=fc) (e:=5)) (List.Mem.tail _ (List.Mem.head _)) ?_)
   refine CW.genI (fun J hJ=> ?_)
   have mF:sls (fo.map fun b=> ⟨b,0,none⟩) 1 g.b.length (bytes g.b)∈J:=hJ _ (List.Mem.head _)
   have mS0:sls (oa.map fun b=> ⟨b,0,none⟩) 48 C.L.length (C.L.flatMap Sr.cells)∈J:=hJ _ (List.Mem.tail _ (List.Mem.head _))
   have m3:cel b3 (g.cells (slO fo g.b.length fc)) 78∈J:=hJ _ (by simp)
   have mA:sls pA 61 L.length (L.flatMap Act33.cells)∈J:=hJ _ (by simp)
   clear hJ
   have fF:RdsN J ⟨b3,0,none⟩ 21 (g.cells (slO fo g.b.length fc)):=⟨fun _=> Rds.allI m3,h21g⟩
   have hzb0:z.b=z.b:=rfl
   have hyb0:y.b=y.b:=rfl
   generalize hzz:z.b=zb at hzb0 ⊢
   generalize hyy:y.b=yb at hyb0 ⊢
   refine CW.loop (γ:=Nat×Crw×RCr) (fun g=> g.1≤30∧EAl g.2.1 g.2.2∧g.2.1.b=zb∧g.2.2.b=yb∧g.2.2.c=C∧g.2.2.oa=oa∧g.2.2.ca=ca2∧g.2.1.l.length≤g.1) (fun g=> [(4, .slice pA L.length cA),(11, .pointer (some ⟨b3,0,none⟩)),(17, .pointer (some ⟨zb,0,none⟩)),(19, .pointer (some ⟨yb,0,none⟩)),(21, .int .i64 (g.1:Int))]) (fun _=> J) (fun g=> [crwI g.2.1,rcrI g.2.2]) (fun g=> 30 - g.1) (0,z,y) ⟨Nat.zero_le _,hal0,hzz,hyy,hyc0,hyo0,hya0,by show z.l.length≤0;omega⟩ sE (fun w h=> h) ?_
   clear hal0 hyc0 hyo0 hya0 hl0 hzz hyy hzb0 hyb0
   clear z y
   rintro ⟨i,z,y⟩ ⟨hi30,hal,rfl,rfl,rfl,rfl,rfl,hln⟩
   dsimp only at hi30 hal hln ⊢
   have mS:rcrS y∈J:=mS0
   refine CW.fact (p:=pA=none→L.length=0) (fun w hC e=> sls_nil (hC.s.i _ mA) e) (fun hpa=> ?_)
   refine CW.seq (CW.sr (RL.q rfl (RL.lenS runUnderlying22 rfl rfl (RL.q rfl ?_))))
   apply RL.andB (d:=106) (dp:=109) (l':=(Sq.of [8,9,10,11])) rfl (sK [4,11,17,19,21] rfl)
   ·
    intro hb5 K5
    refine RL.q rfl (RL.p rfl ?_)
    exact K5 _ (.cons rfl (sK [4,11,17,19,21] rfl))
   ·
    intro hb5 K5
    refine RL.q rfl (RL.p rfl ?_)
    exact K5 _ (.cons rfl (sK [4,11,17,19,21] rfl))
   refine RL.p rfl ?_
   apply RL.andB (d:=110) (dp:=113) (l':=(Sq.of [])) rfl (sK [4,11,17,19,21] rfl)
   ·
    intro hb9 K9
    refine RL.p rfl (RL.cmp rfl rfl rfl (neq_ptr runUnderlying41 _) (RL.p rfl ?_))
    exact K9 _ (.cons rfl (sK [4,11,17,19,21] rfl))
   ·
    intro hb9 K9
    refine RL.q rfl (RL.p rfl ?_)
    exact K9 _ (.cons rfl (sK [4,11,17,19,21] rfl))
   refine RL.ns ?_
   refine CW.cond rfl (fun hlt=> ?_) (fun hlt=> ?_)
   ·
    have hlt:i < L.length∧i < 30:=by simp at hlt;omega
    obtain ⟨aA,rfl⟩:=sls_some hpa (by omega)
    have hx:=List.getElem?_eq_getElem hlt.1
    have hok:=hL _ (List.getElem_mem hlt.1)
    generalize L[i]=x at hx hok
    have fA:RdsN J (aA.add (i*61)) 61 x.cells:=⟨fun _=> (Rds.sls mA).part (fun q u hu=> by
     have hlt:q < 61:=(List.getElem?_eq_some_iff.1 hu).1
     rw [get_flat (f:=Act33.cells) (fun a _=> act33_flat a) hx hlt];exact hu),act33_flat x⟩
    refine CW.sn (CW.seq (CW.bs (CW.seq (CW.region (ef:= [6]) (bk:= [6]) (RL.q rfl (RL.q rfl (RL.idx (j:=i) runUnderlying22 sizeOf71 rfl rfl rfl rfl hlt.1 (RL.loadSq isAgg71 sizeOf71 rfl rfl ?_))))))))
    refine RL.call (do33_any z y x hok hal (by omega)) call15 rfl rfl rfl pE (.inI mS .nil) (.inr rfl) ?_
    rintro _ _ _ ⟨rfl,rfl,z',y',rfl,hx'⟩
    have hld:=eLedger_any z' hx'.al.zo
    rw [hx'.zb] at hld
    refine RL.pn rfl (CW.ok [4,11,17,19,21,123] rfl (CW.condF rfl (rfl) (CW.sn (CW.seq (CW.region (ef:= [1]) (bk:= []) (RL.p rfl (RL.call (hld) call16 rfl rfl rfl pE (.inH mQ .nil) (.inl rfl) ?_)))))))
    rintro _ _ _ ⟨lo,lc,R,rfl,rfl,rfl,hR⟩
    have hzb:=hx'.zb
    have hyb:=hx'.yb
    have hal':=hx'.al
    have hS':rcrS y'=rcrS y:=by rw [rcrS,rcrS,hx'.yc,hx'.oa]
    have hln':=hx'.l
    have hlen:=hal'.len
    have hRl:R.length=z'.l.length:=by have:=congrArg List.length hR;simpa using this
    have hlc:Lies (rcrI y') (cel y.b y'.cells 108):=by rw [←hyb];exact lie_rc y'
    have hsd:=fun (g:Fr) (p:Option Addr) (c n:Nat) (h1:g.Num) (h2:g.b.length=n) (h3:n≤1000000)=> eSaid_any z' g p c n hal'.zo h1 h2 h3
    rw [hzb] at hsd
    have hrs:=fun (g:Fr) (p:Option Addr) (c n:Nat) (h1:g.Ok) (h2:g.b.length=n) (h3:n≤1000000)=> rSaid_any y' g p c n hal'.yo h1 h2 h3
    rw [hyb] at hrs
    refine RL.pn rfl (CW.s2 (CW.regionD (Sq.of [0,1,2,3,4,5,6,7,8,9,10,11,12,13,14,15,16]) [] [] [0,1,2,3,4,6,7,8,9,10,12,13,15,16] mixed (by kernel_rfl) ?_))
    refine RL.p rfl (RL.lenS runUnderlying72 rfl rfl (RL.q rfl (RL.fa fa_108_4 rfl (RL.load isAgg72 rfl rfl (Rd.lie mQ hlc (rcr_l hal'.yo.cm)) ?_))))
    refine RL.lenS runUnderlying72 rfl rfl (RL.q rfl (RL.cast (d:=134) (v':= .bool false) rfl ((by rw [hlen];simp)) ?_))
    refine RL.p rfl (RL.loadSTq isAgg78 sizeOf78 rfl rfl ?_)
    refine RL.callv (hsd g (fo.map fun b=> ⟨b,0,none⟩) fc _ hf1 rfl (by omega)) call25 rfl rfl (.inH mQ (.inI mF .nil)) ?_
    refine RL.p rfl (RL.loadSTq isAgg78 sizeOf78 rfl rfl ?_)
    refine RL.callv (hrs g (fo.map fun b=> ⟨b,0,none⟩) fc _ hf1.ok rfl (by omega)) call30 rfl rfl (.inH mQ (.inI mF .nil)) ?_
    refine RL.cmp rfl rfl rfl (neq_bool runUnderlying4 _ _) (RL.pn rfl (CW.ok [4,11,17,19,21,22,142] rfl (CW.condF rfl ((by rw [saidB_map hal'.l];simp)) ?_)))
    refine CW.sn (CW.seq (CW.sr (RL.pn rfl ?_)))
    refine CW.cutG (γ:=Unit) (fun _=> True) (fun _=> [(4, .slice (some aA) L.length cA),(11, .pointer (some ⟨b3,0,none⟩)),(17, .pointer (some ⟨z.b,0,none⟩)),(19, .pointer (some ⟨y.b,0,none⟩)),(21, .int .i64 (i:Int))]) (fun _=> J) (fun _=> [crwI z',rcrI y']) ?_ ?_
    ·
     refine CW.block (CW.loop (γ:=Nat) (fun j=> j≤z'.l.length) (fun j=> [(4, .slice (some aA) L.length cA),(11, .pointer (some ⟨b3,0,none⟩)),(17, .pointer (some ⟨z.b,0,none⟩)),(19, .pointer (some ⟨y.b,0,none⟩)),(21, .int .i64 (i:Int)),(22,slO lo z'.l.length lc),(23, .int .i64 (j:Int))]) (fun _=> J) (fun _=> [crwI z',rcrI y',own lo lc 78 21 z'.l.length (R.flatMap FrO.cells),PK.allI (R.map bodyO)]) (fun j=> z'.l.length - j) 0 (Nat.zero_le _) sE (fun w h=> h.rea (fun _ h=> h) rE) ?_)
     intro j hj
     refine CW.fact (p:=lo=none→z'.l.length=0) (fun w hC e=> own_none (by have:=hC.s.h (own lo lc 78 21 z'.l.length (R.flatMap FrO.cells)) mQ;rw [e] at this;exact this)) (fun hpl=> ?_)
     refine CW.fact (p:=y'.so=none→y'.l.length=0) (fun w hC e=> own_none (by have:=(lie_rl y').A w (hC.s.h (rcrI y') mQ);rw [rcrL,e] at this;exact this)) (fun hpy=> ?_)
     refine CW.seq (CW.sr (RL.q rfl (RL.lenS runUnderlying72 rfl rfl (RL.pn rfl ?_))))
     refine CW.cond rfl (fun hj2=> ?_) (fun hj2=> ?_)
     ·
      have hj2:j < z'.l.length:=by simp at hj2;omega
      obtain ⟨lb,rfl⟩:∃lb,lo=some lb:=by
       cases lo with
       | none=> exact absurd (hpl rfl) (by omega)
       | some lb=> exact ⟨lb,rfl⟩
      obtain ⟨sb,hso⟩:∃sb,y'.so=some sb:=by
       cases h:y'.so with
       | none=> exact absurd (hpy h) (by omega)
       | some sb=> exact ⟨sb,rfl⟩
      have hr:=List.getElem?_eq_getElem (show j < R.length by omega)
      have hw:=List.getElem?_eq_getElem (show j < y'.l.length by omega)
      have hzj:=List.getElem?_eq_getElem hj2
      have hrm:=List.getElem_mem (show j < R.length by omega)
      have hwm:=List.getElem_mem (show j < y'.l.length by omega)
      have hzm:=List.getElem_mem hj2
      have e1:(R[j]).f=(z'.l[j]).f:=by
       have:=congrArg (fun l=> l[j]?) hR
       simp only [List.getElem?_map,hr,hzj] at this
       exact Option.some.inj this
      have e2:(z'.l[j]).f=(y'.l[j]).f:=by
       have:=congrArg (fun l=> l[j]?) hal'.l
       simp only [List.getElem?_map,hw,hzj] at this
       exact Option.some.inj this
      have hfit:=hal'.zo.l _ hzm
      rw [←e1] at hfit
      have hsay:saidB z'.l (R[j]).f=true:=by
       rw [saidB_same,List.any_eq_true]
       exact ⟨_,hzm,same_iff.2 e1.symm⟩
      have hRlen:∀r∈R,r.cells.length=21:=fun r hr=> by
       have:r.f∈z'.l.map FrO.f:=by rw [←hR];exact List.mem_map.2 ⟨r,hr,rfl⟩
       obtain ⟨t,ht,he⟩:=List.mem_map.1 this
       exact fr_len (by rw [←he];exact (hal'.zo.l t ht).ok.tag) _
      have hylen:∀r∈y'.l,r.cells.length=21:=fun r hr=> fr_len (hal'.yo.l r hr).ok.tag _
      have e3:=e1.trans e2
      clear e1 e2 hzj hzm
      generalize R[j]=r at hr hrm hfit hsay e3
      generalize y'.l[j]=w at hw hwm e3
      obtain ⟨g1,ro,rc⟩:=r
      obtain ⟨g2,wo,wc⟩:=w
      dsimp only at e3 hfit hsay
      subst e3
      have hb1:=hfit.b
      have h21r:=fr_len hfit.ok.tag (slO ro g1.b.length rc)
      have h21w:=fr_len hfit.ok.tag (slO wo g1.b.length wc)
      have h21o:=fr_len (odd_num hfit.num).ok.tag (slO ro g1.b.length rc)
      have rl:y'.cells[0+62]? =some (slO (some sb) y'.l.length y'.soc):=by rw [←hso];exact rcr_l hal'.yo.cm
      have hll:Lies (rcrI y') (own (some sb) y'.soc 78 21 y'.l.length (y'.l.flatMap FrO.cells)):=by rw [←hso];exact lie_rl y'
      have hbr:Lies (PK.allI (R.map bodyO)) (sls (ro.map fun b=> ⟨b,0,none⟩) 1 g1.b.length (bytes g1.b)):=(Lies.allI (List.mem_map.2 ⟨_,hrm,rfl⟩:bodyO ⟨g1,ro,rc⟩∈R.map bodyO)).trans Lies.ownS
      have hbw:Lies (rcrI y') (sls (wo.map fun b=> ⟨b,0,none⟩) 1 g1.b.length (bytes g1.b)):=(lie_rb y').trans ((Lies.allI (List.mem_map.2 ⟨_,hwm,rfl⟩:bodyO ⟨g1,wo,wc⟩∈y'.l.map bodyO)).trans Lies.ownS)
      have hsm:g1.same g1=true:=same_iff.2 rfl
      refine CW.sn (CW.seq (CW.bs (CW.seq (CW.regionD (Sq.of [0,1,2,3,4,5,6,7,8,9,10,11,12,13,14,15,16,17,18,19,20,21]) [] [] [0,1,2,4,5,6,8,9,12,13,14,15,16,17,20,21] mixed (by kernel_rfl) ?_))))
      refine RL.q rfl (RL.idxAt (j:=j) runUnderlying72 sizeOf78 rfl rfl rfl rfl (by omega) ?_)
      refine RL.loadN (vs:=g1.cells (slO ro g1.b.length rc)) isAgg78 (by rw [h21r];exact sizeOf78) rfl rfl (own_rds (f:=FrO.cells) mQ hr hRlen) ?_
      refine RL.q rfl (RL.fa fa_108_4 rfl (RL.load isAgg72 rfl rfl (Rd.lie mQ hlc rl) ?_))
      refine RL.p rfl (RL.idxAt (j:=j) runUnderlying72 sizeOf78 rfl rfl rfl rfl (by omega) ?_)
      refine RL.loadN (vs:=g1.cells (slO wo g1.b.length wc)) isAgg78 (by rw [h21w];exact sizeOf78) rfl rfl (Rds.lieF (g:=FrO.cells) mQ hll hw hylen) ?_
      refine RL.callv (frsame_any g1 g1 (ro.map fun b=> ⟨b,0,none⟩) (wo.map fun b=> ⟨b,0,none⟩) _ _ rc wc hfit.ok hfit.ok) call31 rfl rfl (Lend.lieO hbr mQ (Lend.lieO hbw mQ .nil)) ?_
      refine RL.q rfl (RL.cast (d:=162) (v':= .bool false) rfl ((by rw [hsm];rfl)) ?_)
      refine RL.q rfl (RL.p rfl (RL.idxAt (j:=j) runUnderlying72 sizeOf78 rfl rfl rfl rfl (by omega) ?_))
      refine RL.loadN (vs:=g1.cells (slO ro g1.b.length rc)) isAgg78 (by rw [h21r];exact sizeOf78) rfl rfl (own_rds (f:=FrO.cells) mQ hr hRlen) ?_
      refine RL.callv (hsd g1 (ro.map fun b=> ⟨b,0,none⟩) rc _ hfit.num rfl (by omega)) call25 rfl rfl (.inH mQ (Lend.lieO hbr mQ .nil)) ?_
      refine RL.qn rfl (CW.ok [4,11,17,19,21,22,23,170] rfl (CW.condF rfl ((by rw [hsay];rfl)) ?_))
      refine CW.sn (CW.seq (CW.region (ef:= [4,5]) (bk:= [5]) (RL.q rfl (RL.idxAt (j:=j) runUnderlying72 sizeOf78 rfl rfl rfl rfl (by omega) ?_))))
      refine RL.loadN (vs:=g1.cells (slO ro g1.b.length rc)) isAgg78 (by rw [h21r];exact sizeOf78) rfl rfl (own_rds (f:=FrO.cells) mQ hr hRlen) ?_
      refine RL.alloc zeroValue78 rfl rfl rfl ?_
      intro b6
      refine RL.storeW sizeOf78 rfl rfl rfl rfl rfl rfl (ones_fr _ rfl) uE h21r rfl ?_
      refine RL.ns (CW.seq (CW.region (ef:= [6]) (bk:= [6]) (RL.fa fa_78_5 rfl (RL.idxAAt (j:=7) runUnderlying76 sizeOf5 rfl rfl rfl rfl (by decide) ?_))))
      refine RL.load isAgg5 rfl rfl (Rd.get mQ (odd_rd hfit.ok.tag _)) ?_
      refine RL.bv8 (a:=g1.tag.getD 7 0#8) (b:=1#8) xor8 rfl rfl rfl (RL.fa fa_78_5 rfl (RL.idxAAt (j:=7) runUnderlying76 sizeOf5 rfl rfl rfl rfl (by decide) ?_))
      refine RL.storeX (vs:= [_]) (odd_set hfit.ok.tag _) sizeOf5 rfl rfl rfl rfl rfl rfl rfl uE (by rw [h21r];show 0+5+7*1+1≤21;decide) ?_
      refine RL.ns (CW.ok [4,11,17,19,21,22,23,24] rfl (CW.seq (CW.regionD (Sq.of [0,1,2,3,4,5,6]) [] [] [0,3,6] mixed (by kernel_rfl) ?_)))
      refine RL.p rfl (RL.loadW isAgg78 sizeOf78 rfl rfl mQ h21o ?_)
      refine RL.callv (hsd g1.odd (ro.map fun b=> ⟨b,0,none⟩) rc g1.b.length (odd_num hfit.num) rfl (by omega)) call25 rfl rfl (.inH mQ (Lend.lieO hbr mQ .nil)) ?_
      refine RL.p rfl (RL.loadW isAgg78 sizeOf78 rfl rfl mQ h21o ?_)
      refine RL.callv (hrs g1.odd (ro.map fun b=> ⟨b,0,none⟩) rc g1.b.length (odd_num hfit.num).ok rfl (by omega)) call30 rfl rfl (.inH mQ (Lend.lieO hbr mQ .nil)) ?_
      refine RL.cmp rfl rfl rfl (neq_bool runUnderlying4 _ _) (RL.ns (CW.ok [4,11,17,19,21,22,23,187] rfl (CW.condF rfl ((by rw [saidB_map hal'.l];simp)) ?_)))
      refine CW.skip (NQ.block (NQ.seq (CW.rg (RL.p rfl (RL.bx rfl (wrapV_i64 (by omega) (by omega)) ?_)))))
      refine RL.p rfl (RL.nil ?_)
      refine NQ.round (g:=j) (j+1) hj2 (by show z'.l.length - (j+1) < z'.l.length - j;omega) sE (fun w h=> h.rea (fun _ h=> h) rE)
     ·
      refine CW.exit (XQ.seq (XQ.seq (XQ.hit ?_)))
      exact NQ.midG () trivial sE (fun w h=> h.rea (fun _ h=> h) rE)
    rintro ⟨⟩ -
    refine CW.sr (RL.pn rfl (CW.block (CW.loop (γ:=Nat) (fun t=> t≤10) (fun t=> [(4, .slice (some aA) L.length cA),(11, .pointer (some ⟨b3,0,none⟩)),(17, .pointer (some ⟨z.b,0,none⟩)),(19, .pointer (some ⟨y.b,0,none⟩)),(21, .int .i64 (i:Int)),(25, .int .i64 ((t:Int) - 1))]) (fun _=> J) (fun _=> [crwI z',rcrI y']) (fun t=> 10 - t) 0 (Nat.zero_le _) sE (fun w h=> h) ?_)))
    intro t ht
    have hmk:=fun n=> eMark_any z' n hal'.zo
    rw [hzb] at hmk
    refine CW.seq (CW.s1 rfl ?_)
    refine CW.cond rfl (fun hs=> ?_) (fun hs=> ?_)
    ·
     refine CW.sn (CW.seq (CW.block (CW.sr (RL.q rfl (RL.callv (hmk ((t:Int) - 1)) call23 rfl rfl (.inH mQ .nil) ?_)))))
     refine RL.q rfl (RL.p rfl (RL.qn rfl (CW.ok [4,11,17,19,21,25,26,27] rfl (CW.sr (RL.q rfl (RL.p rfl ?_))))))
     apply RL.orB (d:=200) (dp:=203) (l':=(Sq.of [])) rfl (sK [4,11,17,19,21,25,26,27] rfl)
     ·
      intro hb3 K3
      refine RL.q rfl (RL.p rfl ?_)
      exact K3 _ (.cons rfl (sK [4,11,17,19,21,25,26,27] rfl))
     ·
      intro hb3 K3
      refine RL.q rfl (RL.p rfl ?_)
      exact K3 _ (.cons rfl (sK [4,11,17,19,21,25,26,27] rfl))
     refine RL.ns ?_
     have hs:t < 10:=by simp at hs;omega
     refine CW.cond rfl (fun hr=> ?_) (fun hr=> ?_)
     ·
      have hr: ¬(0≤(t:Int) - 1∧(t:Int) - 1≤7):=by simp at hr;omega
      have hm0:=mark_off hal'.zo hr
      refine CW.sr (RL.q rfl (RL.p rfl ?_))
      apply RL.orB (d:=206) (dp:=209) (l':=(Sq.of [])) rfl (sK [4,11,17,19,21,25] rfl)
      ·
       intro hb3 K3
       refine RL.q rfl (RL.p rfl ?_)
       exact K3 _ (.cons rfl (sK [4,11,17,19,21,25] rfl))
      ·
       intro hb3 K3
       refine RL.q rfl (RL.p rfl ?_)
       exact K3 _ (.cons rfl (sK [4,11,17,19,21,25] rfl))
      refine RL.ns (CW.condF rfl ((by rw [hm0];rfl)) ?_)
      refine CW.skip (NQ.block (NQ.seq (CW.rg (RL.p rfl (RL.bx rfl (wrapV_i64 (by omega) (by omega)) ?_)))))
      refine RL.p rfl (RL.nil ?_)
      refine NQ.round (g:=t) (t+1) hs (by show 10 - (t+1) < 10 - t;omega) (.cons rfl (.cons rfl (.cons rfl (.cons rfl (.cons rfl (.cons (by show some (Value.int .i64 ((t:Int) - 1+1))=some (Value.int .i64 (((t+1:Nat):Int) - 1));congr 2;omega) .nil)))))) (fun w h=> h)
     ·
      have hr:0≤(t:Int) - 1∧(t:Int) - 1≤7:=by simp at hr;omega
      obtain ⟨q1,hq1⟩:∃q1:Nat,(t:Int) - 1=(q1:Int):=⟨t - 1,by omega⟩
      have hq8:q1 < 8:=by omega
      have hmq:=hal'.m q1 hq8
      have he1:=rcr_e (z:=y') hal'.yo.cm hq8
      have hn1:=rcr_n (z:=y') hal'.yo.cm hq8
      refine CW.sr (RL.q rfl (RL.q rfl (RL.fa fa_108_2 rfl (RL.cast (d:=212) (v':= .int .i64 (q1:Int)) rfl (by rw [hq1]) ?_))))
      refine RL.idxAAt (j:=q1) runUnderlying62 sizeOf61 rfl rfl rfl rfl hq8 (RL.load isAgg61 rfl rfl (Rd.lie mQ hlc he1) ?_)
      refine RL.q rfl ?_
      apply RL.orB (d:=218) (dp:=227) (l':=(Sq.of [])) rfl (sK [4,11,17,19,21,25] rfl)
      ·
       intro hb9 K9
       refine RL.q rfl (RL.q rfl (RL.fa fa_108_3 rfl (RL.cast (d:=221) (v':= .int .i64 (q1:Int)) rfl (by rw [hq1]) ?_)))
       refine RL.idxAAt (j:=q1) runUnderlying63 sizeOf32 rfl rfl rfl rfl hq8 (RL.load isAgg32 rfl rfl (Rd.lie mQ hlc hn1) ?_)
       refine RL.q rfl ?_
       exact K9 _ (.cons rfl (sK [4,11,17,19,21,25] rfl))
      ·
       intro hb9 K9
       refine RL.q rfl (RL.q rfl (RL.q rfl (RL.q rfl (RL.p rfl ?_))))
       exact K9 _ (.cons rfl (sK [4,11,17,19,21,25] rfl))
      refine RL.ns (CW.condF rfl ((by rw [hq1,hmq];simp)) ?_)
      refine CW.skip (NQ.block (NQ.seq (CW.rg (RL.p rfl (RL.bx rfl (wrapV_i64 (by omega) (by omega)) ?_)))))
      refine RL.p rfl (RL.nil ?_)
      refine NQ.round (g:=t) (t+1) hs (by show 10 - (t+1) < 10 - t;omega) (.cons rfl (.cons rfl (.cons rfl (.cons rfl (.cons rfl (.cons (by show some (Value.int .i64 ((t:Int) - 1+1))=some (Value.int .i64 (((t+1:Nat):Int) - 1));congr 2;omega) .nil)))))) (fun w h=> h)
    ·
     refine CW.exit (XQ.seq (XQ.seq (XQ.hit (NQ.block (NQ.seq (CW.rg (RL.p rfl (RL.bx rfl (wrapV_i64 (by omega) (by omega)) ?_))))))))
     refine RL.p rfl (RL.nil ?_)
     refine NQ.round (g:=(i,z,y)) (i+1,z',y') ⟨by omega,hal',hzb,hyb,hx'.yc,hx'.oa,hx'.ca,by show z'.l.length≤i+1;omega⟩ (by show 30 - (i+1) < 30 - i;omega) sE (fun w h=> h.rea (fun _ h=> h) rE)
   ·
    refine CW.exit (XQ.seq (XQ.seq (XQ.hit (NQ.seq (CW.ok [] rfl (CW.sr (RL.callvq (works33) call6 rfl rfl ?_)))))))
    refine RL.pn rfl (CW.ret ?_)
    exact RQ.post (res1 rfl rfl) (Split.none _) ⟨rfl,rfl,rfl⟩
end Go.Proofs.YtkineolcmdecjaaGreat
namespace Go.Proofs.YtkineolcmdecjaaGreat
open Go.PK
open Tryz
theorem emitPlays_call (W:World) (x:CfA) (k:List B8) (n:Int) (b:Bool) (l:Sl Act33) (f:FrA) (hx:rCf.ok x) (hk:rKey.ok k) (_:rInt.ok n) (_:rBool.ok b) (hl:rActs33.ok l) (hf:rFr.ok f) (tx:∀y∈rCf.its x,y.A W) (_:∀y∈rKey.its k,y.A W) (_:∀y∈rInt.its n,y.A W) (_:∀y∈rBool.its b,y.A W) (tl:∀y∈rActs33.its l,y.A W) (tf:∀y∈rFr.its f,y.A W):
  Calls prog 5 #[rCf.val x,rKey.val k,rInt.val n,rBool.val b,rActs33.val l,rFr.val f] W (fun e w'=> e= .returned (.bool true)∧RowKit.Below W.heap.size W w'):=by
 have tx:∀y∈ [sls x.p 48 x.c.L.length (x.c.L.flatMap Sr.cells)],y.A W:=tx
 have tl:∀y∈(sls l.p 61 l.l.length (l.l.flatMap Act33.cells)::l.l.flatMap fun _=> ([]:List It)),y.A W:=tl
 have tf:∀y∈ [sls f.p 1 f.f.b.length (bytes f.f.b)],y.A W:=tf
 exact (eplays x.c x.p x.cap _ k n b l.p l.c _ l.l f.f f.p f.c _ hx.f rfl hx.l hx.b hk.1 rfl (Nat.le_trans hl.1 hl.2.1) hl.2.2.2 ⟨hf.1.f,hf.2.1,hf.2.2⟩ rfl hf.1.c hf.1.b).lawI (fun y hy=> by
  rcases List.mem_cons.1 hy with rfl | hy
  ·exact tx _ (List.Mem.head _)
  rcases List.mem_cons.1 hy with rfl | hy
  ·exact tl _ (List.Mem.head _)
  ·exact tf y hy)
end Go.Proofs.YtkineolcmdecjaaGreat
