import Derived.Test.YtkineolcmdecjaaGreatEC
import Derived.Test.YtkineolcmdecjaaGreatEA
import Derived.Test.YtkineolcmdecjaaGreatEF
import Derived.Test.YtkineolcmdecjaaGreatUD
import Derived.Test.YtkineolcmdecjaaGreatKE
import Derived.Test.YtkineolcmdecjaaGreatEB
namespace Go.Proofs.YtkineolcmdecjaaGreat
open Go.PK
open Tryz
structure RCr where
 b:Nat
 c:Cf
 oa:Option Nat
 ca:Nat
 ko:Nat
 kc:Nat
 K:List (List B8)
 ep:Nat→Nat
 ct:Nat→Nat
 so:Option Nat
 soc:Nat
 l:List FrO
def e8 (f:Nat→Nat):List Value:=(List.range 8).map fun i=> .int .u32 (f i:Int)
def c8 (f:Nat→Nat):List Value:=(List.range 8).map fun i=> .int .u64 (f i:Int)
def upN (f:Nat→Nat) (i v:Nat):Nat→Nat:=fun j=> if j=i then v else f j
def RCr.cells (z:RCr):List Value:=(z.c.cells (slO z.oa z.c.L.length z.ca)++ [slO (some z.ko) z.K.length z.kc])++(e8 z.ep++(c8 z.ct++ [slO z.so z.l.length z.soc]))
abbrev rcrC (z:RCr):It:=cel z.b z.cells 108
abbrev rcrL (z:RCr):It:=own z.so z.soc 78 21 z.l.length (z.l.flatMap FrO.cells)
abbrev rcrK (z:RCr):It:=own (some z.ko) z.kc 31 32 z.K.length (flatK z.K)
abbrev rcrB (z:RCr):It:=PK.allI (z.l.map bodyO)
abbrev RcrL (z:RCr):List It:= [rcrC z,rcrL z,rcrK z,rcrB z]
abbrev rcrI (z:RCr):It:=PK.allI (RcrL z)
abbrev rcrS (z:RCr):It:=sls (z.oa.map fun b=> ⟨b,0,none⟩) 48 z.c.L.length (z.c.L.flatMap Sr.cells)
structure RCr.Ok (z:RCr):Prop where
 cm:z.c.cm.length=32
 L:∀s∈z.c.L,s.Fit∧0≤s.id∧s.id≤7
 n:z.c.L.length≤12
 K:∀k∈z.K,k.length=32
 K1:1≤z.K.length∧z.K.length≤513
 ep:∀i,z.ep i < 4294967296
 ct:∀i,z.ct i < 18446744073709551616
 l:∀x∈z.l,x.f.Fit
 ll:z.l.length≤1000
theorem RCr.Ok.fit {z:RCr} (h:z.Ok):z.c.Fit:=⟨h.cm,fun s hs=> (h.L s hs).1⟩
theorem rpre_len {z:RCr} (h:z.c.cm.length=32):(z.c.cells (slO z.oa z.c.L.length z.ca)++ [slO (some z.ko) z.K.length z.kc]).length=46:=by rw [List.length_append,cf_len h];rfl
theorem rcr_len {z:RCr} (h:z.c.cm.length=32):z.cells.length=63:=by rw [RCr.cells,List.length_append,rpre_len h];rfl
theorem rcr_c {z:RCr} (h:z.c.cm.length=32):∀(j:Nat) (u:Value),(z.c.cells (slO z.oa z.c.L.length z.ca))[j]? =some u→z.cells[0+j]? =some u:=fun j u hj=> by
 rw [RCr.cells,Nat.zero_add,List.append_assoc,List.getElem?_append_left (List.getElem?_eq_some_iff.1 hj).1];exact hj
theorem rcr_t {z:RCr} (h:z.c.cm.length=32) (j:Nat):z.cells[0+46+j]? =(e8 z.ep++(c8 z.ct++ [slO z.so z.l.length z.soc]))[j]? :=by
 have:=rpre_len h
 rw [RCr.cells,List.getElem?_append_right zb,this]
 congr 1;omega
theorem rcr_k {z:RCr} (h:z.c.cm.length=32):z.cells[0+45]? =some (slO (some z.ko) z.K.length z.kc):=by
 have h1:=cf_len h (slO z.oa z.c.L.length z.ca)
 rw [RCr.cells,List.append_assoc,List.getElem?_append_right zb,h1];rfl
theorem rcr_e {z:RCr} (h:z.c.cm.length=32) {i:Nat} (hi:i < 8):z.cells[0+46+i*1]? =some (.int .u32 (z.ep i:Int)):=by
 rw [rcr_t h,List.getElem?_append_left (by simp [e8];omega)];simp [e8,hi]
theorem rcr_n {z:RCr} (h:z.c.cm.length=32) {i:Nat} (hi:i < 8):z.cells[0+54+i*1]? =some (.int .u64 (z.ct i:Int)):=by
 rw [show 0+54+i*1=0+46+(8+i) by omega,rcr_t h,List.getElem?_append_right (by simp [e8]),show 8+i - (e8 z.ep).length=i by simp [e8],List.getElem?_append_left (by simp [c8];omega)];simp [c8,hi]
theorem rcr_l {z:RCr} (h:z.c.cm.length=32):z.cells[0+62]? =some (slO z.so z.l.length z.soc):=by
 rw [show 0+62=0+46+16 by omega,rcr_t h];rfl
theorem spl_appL {A B v:List Value} {k:Nat} (h:k+v.length≤A.length):spl (A++B) k v=spl A k v++B:=by
 rw [spl_eq _ _ _ (by rw [List.length_append];omega),spl_eq _ _ _ h,List.take_append_of_le_length zb,List.drop_append_of_le_length zb]
 simp
theorem e8_set {f:Nat→Nat} {i:Nat} (hi:i < 8) (v:Nat):spl (e8 f) i [.int .u32 (v:Int)]=e8 (upN f i v):=
 spl_range hi (fun q hq=> by simp [upN,hq]) (by simp [upN])
theorem c8_set {f:Nat→Nat} {i:Nat} (hi:i < 8) (v:Nat):spl (c8 f) i [.int .u64 (v:Int)]=c8 (upN f i v):=
 spl_range hi (fun q hq=> by simp [upN,hq]) (by simp [upN])
def RCr.setE (z:RCr) (i v:Nat):RCr:=⟨z.b,z.c,z.oa,z.ca,z.ko,z.kc,z.K,upN z.ep i v,z.ct,z.so,z.soc,z.l⟩
def RCr.setC (z:RCr) (i v:Nat):RCr:=⟨z.b,z.c,z.oa,z.ca,z.ko,z.kc,z.K,z.ep,upN z.ct i v,z.so,z.soc,z.l⟩
def RCr.put (z:RCr) (x:FrO) (so:Option Nat) (soc:Nat):RCr:=⟨z.b,z.c,z.oa,z.ca,z.ko,z.kc,z.K,z.ep,z.ct,so,soc,z.l++ [x]⟩
theorem rset_e {z:RCr} (h:z.c.cm.length=32) {i:Nat} (hi:i < 8) (v:Nat):spl z.cells (0+46+i*1) [.int .u32 (v:Int)]=(z.setE i v).cells:=by
 rw [RCr.cells,show 0+46+i*1=(z.c.cells (slO z.oa z.c.L.length z.ca)++ [slO (some z.ko) z.K.length z.kc]).length+i by rw [rpre_len h];omega,spl_app,spl_appL (by simp [e8];omega),e8_set hi];rfl
theorem rset_n {z:RCr} (h:z.c.cm.length=32) {i:Nat} (hi:i < 8) (v:Nat):spl z.cells (0+54+i*1) [.int .u64 (v:Int)]=(z.setC i v).cells:=by
 rw [RCr.cells,show 0+54+i*1=(z.c.cells (slO z.oa z.c.L.length z.ca)++ [slO (some z.ko) z.K.length z.kc]).length+((e8 z.ep).length+i) by rw [rpre_len h];simp [e8];omega,spl_app,spl_app,spl_appL (by simp [c8];omega),c8_set hi];rfl
theorem rset_l {z:RCr} (h:z.c.cm.length=32) (x:FrO) (so:Option Nat) (soc:Nat):spl z.cells (0+62) [slO so (z.l.length+1) soc]=(z.put x so soc).cells:=by
 have e:z.cells=((z.c.cells (slO z.oa z.c.L.length z.ca)++ [slO (some z.ko) z.K.length z.kc])++(e8 z.ep++c8 z.ct))++([slO z.so z.l.length z.soc]++ []):=by simp [RCr.cells]
 rw [e,seg_spl (by rw [List.length_append,rpre_len h];rfl) zm]
 simp [RCr.cells,RCr.put]
section
variable {P : Program} {Q : Exit → Act → World → Prop} {N : Nat} {E : Env} {w0 : World} {S : List Nat} {I H C : List It} {cc : Code}
theorem CW.rcrOpen {z:RCr} (h:CW P cc Q N E w0 S I ([rcrC z,rcrL z,rcrK z,rcrB z]++C)):CW P cc Q N E w0 S I (rcrI z::C):=CW.unpack h
theorem RQ.rcr {z:RCr} (hr:Rea H (RcrL z++C)) (h:RQ Q N E w0 S I (rcrI z::C)):RQ Q N E w0 S I H:=RQ.rea (fun _ h=> h) hr (RQ.pack h)
theorem CW.rcr {z:RCr} (hr:Rea H (RcrL z++C)) (h:CW P cc Q N E w0 S I (rcrI z::C)):CW P cc Q N E w0 S I H:=CW.rea (fun _ h=> h) hr (CW.pack h)
end
theorem lie_rc (z:RCr):Lies (rcrI z) (rcrC z):=Lies.allI (List.Mem.head _)
theorem lie_rk (z:RCr):Lies (rcrI z) (rcrK z):=Lies.allI (List.Mem.tail _ (List.Mem.tail _ (List.Mem.head _)))
def grd (c:Cf) (n:Int):Option Sr:=match c.L.find? (fun s=> s.id==n) with
 | some s=> if (kindsL s.kd).isEmpty=true then none else some s
 | none=> none
def GrdV (c:Cf) (n:Int):Value:= .tuple #[.agg (pickS (fun s=> s.id==n) c.L).1.cells.toArray, .bool ((pickS (fun s=> s.id==n) c.L).2 && !(kindsL (pickS (fun s=> s.id==n) c.L).1.kd).isEmpty)]
theorem grd_some {c:Cf} {n:Int} {s:Sr} (h:grd c n=some s):GrdV c n= .tuple #[.agg s.cells.toArray, .bool true]∧s∈c.L∧s.id=n:=by
 unfold grd at h
 cases hx:c.L.find? (fun s=> s.id==n) with
 | none=> rw [hx] at h;cases h
 | some t=>
  rw [hx] at h
  dsimp only at h
  split at h
  ·cases h
  ·next hk=>
   cases h
   refine ⟨?_,List.mem_of_find?_eq_some hx,by simpa using List.find?_some hx⟩
   rw [GrdV,pickS,hx]
   simp [hk]
theorem grd_none {c:Cf} {n:Int} (h:grd c n=none):∃s,(s=zeroS∨s∈c.L)∧GrdV c n= .tuple #[.agg s.cells.toArray, .bool false]:=by
 unfold grd at h
 cases hx:c.L.find? (fun s=> s.id==n) with
 | none=> exact ⟨zeroS, .inl rfl,by rw [GrdV,pickS,hx];rfl⟩
 | some t=>
  rw [hx] at h
  dsimp only at h
  split at h
  ·next hk=> exact ⟨t, .inr (List.mem_of_find?_eq_some hx),by rw [GrdV,pickS,hx];simp [hk]⟩
  ·cases h
theorem rgrd_any (z:RCr) (n:Int) (hz:z.Ok):Spc prog 85 #[.pointer (some ⟨z.b,0,none⟩), .int .i64 n] [rcrI z,rcrS z] [] (Is (GrdV z.c n)):=by
 have h45:=cf_len hz.cm (slO z.oa z.c.L.length z.ca)
 have hfd:=rcfind_any z.c z.oa z.ca _ n rfl hz.fit (by have:=hz.n;omega)
 have hfit:=pickS_fit (p:=fun s:Sr=> s.id==n) hz.fit.L
 have h48:=sr_len hfit.rt
 rw [GrdV]
 generalize pickS (fun s:Sr=> s.id==n) z.c.L=g at hfd hfit h48 ⊢
 obtain ⟨s,ok⟩:=g
 dsimp only at hfit h48 ⊢
 refine Spc.en func85 rfl rfl (fun w0 hw0=> ?_)
 refine CW.sg [0] [] (RL.al zeroValue59 rfl ?_)
 intro b1
 refine RL.pn rfl (CW.ss ?_)
 refine CW.openT (l:=RcrL z) zm (fun J hJ hz'=> ?_)
 have mC:rcrC z∈J:=hz' _ zm
 have mS:rcrS z∈J:=hJ _ zm
 clear hJ hz'
 have fC:RdsN J ⟨z.b,0+0,none⟩ 45 (z.c.cells (slO z.oa z.c.L.length z.ca)):=RdsN.told mC (rcr_c hz.cm) h45
 refine CW.rn (ef:= [9,10]) (bk:= [10]) (RL.q rfl (RL.fa fa_108_0 rfl (RL.lS isAgg47 sizeOf47 rfl ?_)))
 refine RL.p rfl (RL.vv (hfd) call129 rfl (.inI mS .nil) (RL.q rfl (RL.p rfl (RL.al zeroValue59 rfl ?_))))
 intro b2
 refine RL.sW sizeOf59 rfl (sr_ones s) uE h48 rfl ?_
 refine RL.pn rfl (CW.ok [4,6,7] rfl (CW.ss (CW.fP (A:= [cel b2 s.cells 59]) (B:= [cel b1 zeroS.cells 59]) pE rfl ?_)))
 refine CW.gI (fun J2 hJ2=> ?_)
 have m2:cel b2 s.cells 59∈J2:=hJ2 _ (List.Mem.head _)
 clear hJ2 fC
 have fA:RdsN J2 ⟨b2,0,none⟩ 48 s.cells:=⟨fun _=> Rds.allI m2,h48⟩
 have fK:RdI J2 ⟨b2,0+1,none⟩ (.int .i64 s.kd):=⟨fun _=> Rd.celI m2 rfl⟩
 cases ok with
 | false=>
  refine CW.rD (Sq.of (rg 0 10)) [5,9] [9] [0,1,2,3,4,6,7,8,10] mixed zi ?_
  refine RL.loadSTq isAgg59 sizeOf59 rfl ?_
  refine RL.q rfl (RL.tt (d:=19) (v':= .bool false) rfl (rfl) ?_)
  refine RL.q rfl (RL.q rfl (RL.q rfl (RL.sW sizeOf59 rfl (sr_ones s) uE h48 rfl ?_)))
  refine RL.pn rfl (CW.ok [4,5] rfl (CW.rr ?_))
  exact RQ.pp (resWT rfl rfl rfl isAgg59 sizeOf59 mQ h48) (Split.nn _) ⟨rfl,rfl,rfl⟩
 | true=>
  refine CW.rD (Sq.of (rg 0 10)) [5,9] [9] [0,1,2,3,4,6,7,8,10] mixed zi ?_
  refine RL.loadSTq isAgg59 sizeOf59 rfl ?_
  refine RL.q rfl (RL.tt (d:=19) (v':= .bool true) rfl (rfl) ?_)
  refine RL.fa fa_59_1 rfl (RL.lT isAgg3 rfl ?_)
  refine RL.cc (rkinds_any s.kd) call13 rfl pE .nil (.inl rfl) ?_
  rintro _ _ _ ⟨qo,qc,rfl,rfl,rfl⟩
  have hkl:=kindsL_len s.kd
  refine RL.lenS runUnderlying52 rfl (RL.q rfl (RL.sW sizeOf59 rfl (sr_ones s) uE h48 rfl ?_))
  refine RL.pn rfl (CW.ok [4,5] rfl (CW.rr ?_))
  refine RQ.pp (resWT rfl rfl rfl isAgg59 sizeOf59 mQ h48) (Split.nn _) ⟨?_,rfl,rfl⟩
  cases kindsL s.kd <;> simp
def RPutF (z:RCr) (x:FrO):Value→List It→List It→Prop:=fun v I' H'=> ∃rb rc so soc,v=slO rb (frB x.f).length rc∧I'= []∧H'= [rcrI (z.put x so soc),own rb rc 5 1 (frB x.f).length (bytes (frB x.f))]
theorem rcput_any (z:RCr) (x:FrO) (hz:z.c.cm.length=32) (hll:z.l.length≤1000) (hx:x.f.Fit):Spc prog 90 #[.pointer (some ⟨z.b,0,none⟩),frV x] [] [rcrI z,bodyO x] (RPutF z x):=by
 have h21:=fr_len hx.ok.tag x.sl
 have hbl:=hx.b
 refine Spc.en func90 rfl rfl (fun w0 hw0=> ?_)
 refine CW.sg [0] [] (RL.box rfl ?_)
 intro b1
 refine RL.pn rfl (CW.ss (CW.fP (A:= [cel b1 x.cells 78]) (B:= [rcrI z,bodyO x]) pE rfl ?_))
 refine CW.gI (fun J hJ=> ?_)
 have m1:cel b1 x.cells 78∈J:=hJ _ (List.Mem.head _)
 clear hJ
 have fA:RdsN J ⟨b1,0,none⟩ 21 x.cells:=⟨fun _=> Rds.allI m1,h21⟩
 refine CW.rcrOpen (CW.perm (List.Perm.refl [rcrC z,rcrL z,rcrK z,rcrB z,bodyO x]) ?_)
 refine CW.cutG (γ:=Option Nat×Nat) (fun _=> True) (fun _=> [(3, .pointer (some ⟨b1,0,none⟩))]) (fun _=> J) (fun g=> [cel z.b (z.put x g.1 g.2).cells 108,own g.1 g.2 78 21 (z.l.length+1) ((z.l++ [x]).flatMap FrO.cells),rcrK z,rcrB z,bodyO x]) ?_ ?_
 ·
  refine CW.rD (Sq.of (rg 0 10)) [6,7,10] [7,10] [0,1,2,3,5,8,9] mixed zi ?_
  refine RL.q rfl (RL.p rfl (RL.fa fa_108_4 rfl (RL.load isAgg72 rfl (Rd.get mQ (rcr_l hz)) ?_)))
  refine RL.loadSTq isAgg78 sizeOf78 rfl ?_
  refine RL.buildSlice x.cells runUnderlying72 sizeOf78 zeroValue78 rfl rfl zc zc rfl (fill_one21 h21 rfl) ?_
  intro b2
  refine RL.appendA el_72 rfl za (Src.cel mQ h21) (fun u hu=> ones_spec (ones_fro x) u hu) zd zd ?_
  intro ob1 cap1 ho1
  refine RL.p rfl (RL.fa fa_108_4 rfl (RL.sX (vs:= [_]) (rset_l hz x _ _) sizeOf72 rfl rfl uE (by rw [rcr_len hz];show 0+62+1≤63;decide) ?_))
  refine RL.ee ?_
  exact NQ.gg (ob1,cap1) trivial sE (fun w h=> by rw [put_flat] at h;exact h.rea (fun _ h=> h) rE)
 rintro ⟨so,soc⟩ -
 dsimp only
 refine CW.sg [1] [] (RL.lS isAgg78 sizeOf78 rfl ?_)
 refine RL.cc (rfput_any x.f (x.ob.map fun b=> ⟨b,0,none⟩) x.cp _ hx rfl) call135 rfl pE (Lend.own mQ .nil) (.inl rfl) ?_
 rintro _ _ _ ⟨rb,rc,rfl,rfl,rfl⟩
 refine RL.q rfl (RL.p rfl (RL.qn rfl (CW.ok [5] rfl (CW.s1 rfl ?_))))
 refine CW.rr (RQ.rea (fun _ h=> h) (H':= [bodyO x,rcrB z,cel z.b (z.put x so soc).cells 108,own so soc 78 21 (z.l.length+1) ((z.l++ [x]).flatMap FrO.cells),own rb rc 5 1 (frB x.f).length (bytes (frB x.f)),rcrK z]) rE ?_)
 refine RQ.pushA (m:=(z.l++ [x]).map bodyO) (by rw [List.map_append];exact List.perm_append_comm) ?_
 rw [own_is (n':=(z.l++ [x]).length) zm rfl]
 refine RQ.rcr (z:=z.put x so soc) (C:= [own rb rc 5 1 (frB x.f).length (bytes (frB x.f))]) rE ?_
 exact RQ.pp (res1 rfl rfl) (.keep (.keep .nil)) ⟨rb,rc,so,soc,rfl,rfl,rfl⟩
def RCr.snd (z:RCr) (s:Sr):Snd:=⟨s,z.ep s.id.toNat,z.ct s.id.toNat,0⟩
def RSendR (z:RCr) (s:Sr) (r:Rdg):Value→List It→List It→Prop:=fun v I' H'=> I'= []∧((sendE (z.snd s) r≠0∧v= .tuple #[.slice none 0 0, .int .i64 (sendE (z.snd s) r)]∧H'= [rcrI z])∨
 (sendE (z.snd s) r=0∧∃rb rc bo bc so soc,v= .tuple #[slO rb (frB (frS (z.snd s) r)).length rc, .int .i64 0]∧H'= [rcrI ((z.setC s.id.toNat (z.ct s.id.toNat+1)).put ⟨frS (z.snd s) r,bo,bc⟩ so soc),own rb rc 5 1 (frB (frS (z.snd s) r)).length (bytes (frB (frS (z.snd s) r)))]))
theorem sr_root (s:Sr):∀(j:Nat) (u:Value),(bytes s.rt)[j]? =some u→s.cells[0+2+j]? =some u:=fun j u hj=> by
 rw [Sr.cells,show 0+2+j=j+1+1 by omega]
 simp only [List.getElem?_cons_succ]
 rw [List.getElem?_append_left (List.getElem?_eq_some_iff.1 hj).1];exact hj
theorem cont_snoc {l:List Int} {i:Nat} {x k:Int} (h:l[i]? =some x):(l.take (i+1)).contains k=((l.take i).contains k || (x==k)):=by
 rw [List.take_add_one,h]
 show (l.take i++ [x]).contains k=_
 rw [Bool.eq_iff_iff,List.contains_iff_mem,Bool.or_eq_true,List.contains_iff_mem,List.mem_append,List.mem_singleton,beq_iff_eq]
 exact or_congr Iff.rfl eq_comm
theorem rcsend_any (z:RCr) (s:Sr) (r:Rdg) (hr:r.Ok) (hz:z.Ok) (hs:s.Fit) (hid:0≤s.id∧s.id≤7) (hm:z.l.length < 1000):Spc prog 86 #[.pointer (some ⟨z.b,0,none⟩), .agg s.cells.toArray, .agg r.cells.toArray] [] [rcrI z] (RSendR z s r):=by
 have h57:r.cells.length=57:=rfl
 have h48:=sr_len hs.rt
 have hbl:=putB_len48 r
 have hkn:=kindsL_len s.kd
 obtain ⟨i,hi⟩:∃i:Nat,s.id=(i:Int):=⟨s.id.toNat,zb⟩
 have hi8:i < 8:=by omega
 have hit:s.id.toNat=i:=by omega
 have hep:=hz.ep i
 have hct:=hz.ct i
 refine Spc.en func86 rfl rfl (fun w0 hw0=> ?_)
 refine CW.sg [0,1] [] (RL.box rfl ?_)
 intro b1
 refine RL.box rfl ?_
 intro b2
 refine RL.qn rfl (CW.ss (CW.fP (A:= [cel b2 r.cells 69,cel b1 s.cells 59]) (B:= [rcrI z]) pE rfl ?_))
 refine CW.gI (fun J hJ=> ?_)
 have m2:cel b2 r.cells 69∈J:=hJ _ zm
 have m1:cel b1 s.cells 59∈J:=hJ _ zm
 clear hJ
 have fk:RdI J ⟨b2,0+0,none⟩ (.int .i64 r.kind):=⟨fun _=> Rd.celI m2 rfl⟩
 have fA:RdsN J ⟨b2,0,none⟩ 57 r.cells:=⟨fun _=> Rds.allI m2,h57⟩
 have fK:RdI J ⟨b1,0+1,none⟩ (.int .i64 s.kd):=⟨fun _=> Rd.celI m1 rfl⟩
 refine CW.rn (ef:= [1]) (bk:= []) (RL.lS isAgg69 sizeOf69 rfl ?_)
 refine RL.cc (rput_any r hr) call89 rfl pE .nil (.inl rfl) ?_
 rintro _ _ _ ⟨bo,bc,rfl,rfl,rfl⟩
 refine RL.q rfl (RL.p rfl (RL.qn rfl (CW.ok [0,4,5,8,9] rfl (CW.sr (RL.pn rfl (CW.ss ?_))))))
 refine CW.rn (ef:= [2]) (bk:= []) (RL.fa fa_59_1 rfl (RL.lq isAgg3 rfl ?_))
 refine RL.cc (rkinds_any s.kd) call13 rfl pE .nil (.inl rfl) ?_
 rintro _ _ _ ⟨ko,kc,rfl,rfl,rfl⟩
 refine RL.pn rfl (CW.s2 (CW.fP (A:= [own ko kc 3 1 (kindsL s.kd).length (ints (kindsL s.kd))]) (B:= [own bo bc 5 1 (putB r).length (bytes (putB r)),rcrI z]) pE rfl ?_))
 refine CW.gI (fun J2 hJ2=> ?_)
 have mK:own ko kc 3 1 (kindsL s.kd).length (ints (kindsL s.kd))∈J2:=hJ2 _ (List.Mem.head _)
 have n2:cel b2 r.cells 69∈J2:=hJ2 _ (List.Mem.tail _ m2)
 have n1:cel b1 s.cells 59∈J2:=hJ2 _ (List.Mem.tail _ m1)
 clear hJ2 fk fA fK
 have fk:RdI J2 ⟨b2,0+0,none⟩ (.int .i64 r.kind):=⟨fun _=> Rd.celI n2 rfl⟩
 have fD:RdI J2 ⟨b1,0+0,none⟩ (.int .i64 (i:Int)):=⟨fun _=> Rd.celI n1 (by rw [←hi];rfl)⟩
 have fR:RdsN J2 ⟨b1,0+2,none⟩ 32 (bytes s.rt):=RdsN.told n1 (sr_root s) (by rw [List.length_map,hs.rt])
 refine CW.ff (p:=ko=none→(kindsL s.kd).length=0) (fun w hC e=> own_none (by have:=hC.s.i _ mK;rw [e] at this;exact this)) (fun hko=> ?_)
 refine CW.rg (RL.pn rfl (CW.bb (CW.loop (γ:=Nat) (fun j=> j≤(kindsL s.kd).length) (fun j=> [(0, .pointer (some ⟨z.b,0,none⟩)),(4, .pointer (some ⟨b1,0,none⟩)),(5, .pointer (some ⟨b2,0,none⟩)),(8,slO bo (putB r).length bc),(9, .int .i64 (putE r)),(10, .bool (((kindsL s.kd).take j).contains r.kind)),(11,slO ko (kindsL s.kd).length kc),(12, .int .i64 (j:Int))]) (fun _=> J2) (fun _=> [own bo bc 5 1 (putB r).length (bytes (putB r)),rcrI z]) (fun j=> (kindsL s.kd).length - j) 0 (Nat.zero_le _) sE (fun w h=> h) ?_)))
 intro j hj
 refine CW.ss (CW.sr (RL.q rfl (RL.lenS runUnderlying52 rfl (RL.pn rfl ?_))))
 refine CW.cd rfl (fun hlt=> ?_) (fun hlt=> ?_)
 ·
  have hlt:j < (kindsL s.kd).length:=by simp at hlt;omega
  obtain ⟨kb,rfl⟩:∃kb,ko=some kb:=by
   cases ko with
   | none=> exact absurd (hko rfl) zb
   | some kb=> exact ⟨kb,rfl⟩
  have hx:=List.getElem?_eq_getElem hlt
  have hsn:=fun k=> cont_snoc (k:=k) hx
  generalize (kindsL s.kd)[j]=x at hx hsn
  have fX:RdI J2 ⟨kb,0+j*1,none⟩ (.int .i64 x):=⟨fun H w hw=> by
   have h0:(own (some kb) kc 3 1 (kindsL s.kd).length (ints (kindsL s.kd))).A w:=hw.i _ mK
   have hs:Sat [] [own (some kb) kc 3 1 (kindsL s.kd).length (ints (kindsL s.kd))] w:=⟨zm,by simpa using h0,by simp [PK.own],zm⟩
   have:=Rd.getO (I:= []) (List.Mem.head _) (show (ints (kindsL s.kd))[j*1]? =some (.int .i64 x) by rw [Nat.mul_one,List.getElem?_map,hx];rfl) w hs
   rwa [add_none] at this⟩
  refine CW.sn (CW.ss (CW.bb (CW.rD (Sq.of (rg 0 10)) [] [] (rg 0 10) mixed zi ?_)))
  refine RL.q rfl ?_
  apply RL.orB (d:=29) (dp:=37) (l':=(Sq.of [10])) rfl (sK [0,4,5,8,9,10,11,12] rfl)
  ·
   intro hb2 K2
   refine RL.q rfl (RL.ix (j:=j) runUnderlying52 sizeOf3 rfl hlt (RL.lT isAgg3 rfl ?_))
   refine RL.fa fa_69_0 rfl (RL.lT isAgg3 rfl ?_)
   refine RL.q rfl ?_
   exact K2 _ (.cons rfl (sK [0,4,5,8,9,10,11,12] rfl))
  ·
   intro hb2 K2
   refine RL.q rfl (RL.q rfl (RL.q rfl (RL.q rfl ?_)))
   exact K2 _ (.cons rfl (sK [0,4,5,8,9,10,11,12] rfl))
  refine RL.p rfl (RL.ee (NQ.bb (NQ.ss (CW.rg (RL.p rfl (RL.bx rfl (wrapV_i64 zb zb) ?_))))))
  refine RL.p rfl (RL.ee ?_)
  refine NQ.rr (g:=j) (j+1) hlt (by show (kindsL s.kd).length - (j+1) < (kindsL s.kd).length - j;omega) (.cons rfl (.cons rfl (.cons rfl (.cons rfl (.cons rfl (.cons (by rw [hsn];rfl) sE)))))) (fun w h=> h)
 ·
  have hin:j=(kindsL s.kd).length:=by simp at hlt;omega
  subst hin
  rw [List.take_length]
  have hx1:(z.snd s).ct=z.ct i:=by rw [RCr.snd,hit]
  refine CW.xx (XQ.ss (XQ.ss (XQ.hh (NQ.ss (CW.ok [0,4,5,8,9,10] rfl (CW.ss (CW.sr (RL.q rfl (RL.p rfl ?_)))))))))
  apply RL.orB (d:=40) (dp:=43) (l':=(Sq.of [])) rfl (sK [0,4,5,8] rfl)
  ·
   intro hb3 K3
   refine RL.q rfl (RL.p rfl ?_)
   exact K3 _ (.cons rfl (sK [0,4,5,8] rfl))
  ·
   intro hb3 K3
   refine RL.q rfl (RL.p rfl ?_)
   exact K3 _ (.cons rfl (sK [0,4,5,8] rfl))
  refine RL.ns ?_
  refine CW.cd rfl (fun hk=> ?_) (fun hk=> ?_)
  ·
   refine CW.s1 rfl (CW.rr (RQ.ss ?_))
   have hE:=sendE_no (x:=z.snd s) (r:=r) (fun h=> by have h1:=h.1;have h2:(kindsL s.kd).contains r.kind=true:=h.2;rw [h1,h2] at hk;cases hk)
   refine RQ.rea (fun _ h=> h) (H':= [rcrI z]) rE ?_
   exact RQ.pp (res2 rfl rfl rfl) (.keep (Split.nn _)) ⟨rfl, .inl ⟨by rw [hE];decide,by rw [hE],rfl⟩⟩
  ·
   refine CW.sn (CW.s2 (CW.rD (Sq.of (rg 0 7)) [] [] [0,1,2,3,4,5,7] mixed zi ?_))
   refine RL.p rfl (RL.fa fa_59_0 rfl (RL.lT isAgg3 rfl ?_))
   refine RL.p rfl (RL.fa fa_108_3 rfl (RL.iA (j:=i) runUnderlying63 sizeOf32 rfl hi8 (RL.load isAgg32 rfl (Rd.lie mQ (lie_rc z) (rcr_n hz.cm hi8)) ?_)))
   refine RL.pn rfl (CW.ok [0,4,5,8,51] rfl ?_)
   have hk:putE r=0∧(kindsL s.kd).contains r.kind=true:=by simpa using hk
   have hE:=sendE_yes (x:=z.snd s) hk
   rw [hx1] at hE
   refine CW.cd rfl (fun hc=> ?_) (fun hc=> ?_)
   ·
    refine CW.s1 rfl (CW.rr (RQ.ss ?_))
    have hc:z.ct i=18446744073709551615:=by simp at hc;omega
    rw [if_pos hc] at hE
    refine RQ.rea (fun _ h=> h) (H':= [rcrI z]) rE ?_
    exact RQ.pp (res2 rfl rfl rfl) (.keep (Split.nn _)) ⟨rfl, .inl ⟨by rw [hE];decide,by rw [hE],rfl⟩⟩
   ·
    have hc:z.ct i≠18446744073709551615:=by simp at hc;omega
    rw [if_neg hc] at hE
    have hfit:=frS_fit (x:=z.snd s) (r:=r) hid (by show z.ep s.id.toNat < _;rw [hit];exact hep) (by rw [hx1];exact hct) (by rw [sendE_yes hk,hx1,if_neg hc])
    have hfs:frS (z.snd s) r=(⟨r.kind,(i:Int),z.ep i,z.ct i+1,putB r,List.replicate 16 0#8⟩:Fr).sign s.rt:=by rw [frS,RCr.snd,hit,hi]
    have hQ:∀v I' H',I'= []→(∃rb rc so soc,v= .tuple #[slO rb (frB (frS (z.snd s) r)).length rc, .int .i64 0]∧H'= [rcrI ((z.setC i (z.ct i+1)).put ⟨frS (z.snd s) r,bo,bc⟩ so soc),own rb rc 5 1 (frB (frS (z.snd s) r)).length (bytes (frB (frS (z.snd s) r)))])→RSendR z s r v I' H':=fun v I' H' h1 ⟨rb,rc,so,soc,h2,h3⟩=> ⟨h1, .inr ⟨hE,rb,rc,bo,bc,so,soc,h2,by rw [hit];exact h3⟩⟩
    rw [hfs] at hfit hQ
    clear hx1
    generalize hz1:z.setC i (z.ct i+1)=z1 at hQ
    have hcm1:z1.c.cm.length=32:=by rw [←hz1];exact hz.cm
    have hb1:z1.b=z.b:=by rw [←hz1];rfl
    have he1:z1.cells[0+46+i*1]? =some (.int .u32 (z.ep i:Int)):=by rw [rcr_e hcm1 hi8,←hz1];rfl
    have hn1:z1.cells[0+54+i*1]? =some (.int .u64 ((z.ct i+1:Nat):Int)):=by rw [rcr_n hcm1 hi8,←hz1];simp [RCr.setC,upN]
    have hll1:z1.l.length≤1000:=by rw [←hz1];exact Nat.le_of_lt hm
    have hset:=rset_n hz.cm hi8 (z.ct i+1)
    rw [hz1] at hset
    refine CW.sn (CW.ss (CW.rea (fun _ h=> h) (H':= [rcrI z,own bo bc 5 1 (putB r).length (bytes (putB r))]) rE ?_))
    refine CW.rcrOpen (CW.perm (List.Perm.refl [rcrC z,rcrL z,rcrK z,rcrB z,own bo bc 5 1 (putB r).length (bytes (putB r))]) (CW.rD (Sq.of (rg 0 11)) [11] [11] (rg 0 5++[7,8,9,10]) mixed zi ?_))
    refine RL.p rfl (RL.fa fa_59_0 rfl (RL.lT isAgg3 rfl ?_))
    refine RL.p rfl (RL.fa fa_108_3 rfl (RL.iA (j:=i) runUnderlying63 sizeOf32 rfl hi8 (RL.load isAgg32 rfl (Rd.get mQ (rcr_n hz.cm hi8)) ?_)))
    refine RL.bx rfl (wrapV_u64 zb zb) ?_
    refine RL.p rfl (RL.fa fa_108_3 rfl (RL.iA (j:=i) runUnderlying63 sizeOf32 rfl hi8 (RL.sX (vs:= [_]) hset sizeOf32 rfl rfl uE (by rw [rcr_len hz.cm];show 0+54+i*1+1≤63;omega) ?_)))
    refine RL.ns (CW.ok [0,4,5,8] rfl (CW.ss ?_))
    have hrl:rcrL z1=rcrL z:=by rw [←hz1];rfl
    have hrk:rcrK z1=rcrK z:=by rw [←hz1];rfl
    have hrb:rcrB z1=rcrB z:=by rw [←hz1];rfl
    rw [←hrl,←hrk,←hrb,←hb1]
    refine CW.rcr (z:=z1) (C:= [own bo bc 5 1 (putB r).length (bytes (putB r))]) rE ?_
    have hsg:=rsign_any ⟨r.kind,(i:Int),z.ep i,z.ct i+1,putB r,List.replicate 16 0#8⟩ s.rt (bo.map fun b=> ⟨b,0,none⟩) bc _ hs.rt ⟨hep,by show z.ct i+1 < 18446744073709551616;omega,rfl⟩ rfl (by show (putB r).length≤900000;omega)
    have h21:=fr_len (f:=⟨r.kind,(i:Int),z.ep i,z.ct i+1,putB r,List.replicate 16 0#8⟩) rfl (slO bo (putB r).length bc)
    have hput:=rcput_any z1 ⟨(⟨r.kind,(i:Int),z.ep i,z.ct i+1,putB r,List.replicate 16 0#8⟩:Fr).sign s.rt,bo,bc⟩ hcm1 hll1 hfit
    rw [show bodyO ⟨(⟨r.kind,(i:Int),z.ep i,z.ct i+1,putB r,List.replicate 16 0#8⟩:Fr).sign s.rt,bo,bc⟩=own bo bc 5 1 (putB r).length (bytes (putB r)) from rfl] at hput
    refine CW.rD (Sq.of (rg 0 21)) [20,21] [21] (rg 0 9++rg 11 16++[18,19]) mixed zi ?_
    refine RL.fa fa_69_0 rfl (RL.lT isAgg3 rfl ?_)
    refine RL.fa fa_59_0 rfl (RL.lT isAgg3 rfl ?_)
    refine RL.p rfl (RL.fa fa_59_0 rfl (RL.lT isAgg3 rfl ?_))
    refine RL.p rfl (RL.fa fa_108_2 rfl (RL.iA (j:=i) runUnderlying62 sizeOf61 rfl hi8 (RL.load isAgg61 rfl (Rd.lie mQ (lie_rc z1) he1) ?_)))
    refine RL.p rfl (RL.fa fa_59_0 rfl (RL.lT isAgg3 rfl ?_))
    refine RL.p rfl (RL.fa fa_108_3 rfl (RL.iA (j:=i) runUnderlying63 sizeOf32 rfl hi8 (RL.load isAgg32 rfl (Rd.lie mQ (lie_rc z1) hn1) ?_)))
    refine RL.p rfl (RL.bS ((⟨r.kind,(i:Int),z.ep i,z.ct i+1,putB r,List.replicate 16 0#8⟩:Fr).cells (slO bo (putB r).length bc)) zeroValue78 pl_78 (qP rfl (qP rfl (fill_fr rfl rfl))) (RL.al zeroValue78 rfl ?_))
    intro b3
    refine RL.sW sizeOf78 rfl (ones_fr _ rfl) uE h21 rfl ?_
    refine RL.ns (CW.ok [0,4,13] rfl (CW.sg [5] [5] (RL.p rfl (RL.fa fa_59_2 rfl (RL.lS isAgg31 sizeOf31 rfl ?_)))))
    refine RL.lW isAgg78 sizeOf78 rfl mQ h21 ?_
    refine RL.vv (hsg) call130 rfl (Lend.own (xs:=bytes (putB r)) mQ .nil) ?_
    refine RL.cq (hput) call90 rfl (.inr rfl) ?_
    rintro _ _ _ ⟨rb,rc,so,soc,rfl,rfl,rfl⟩
    refine RL.qn rfl (CW.ok [6,7] rfl (CW.rr ?_))
    exact RQ.pp (res2 rfl rfl rfl) (.keep (.keep (Split.nn _))) (hQ _ _ _ rfl ⟨rb,rc,so,soc,rfl,rfl⟩)
def RErrQ (z:RCr) (e:Int):Value→List It→List It→Prop:=fun v I' H'=> v= .tuple #[.slice none 0 0, .int .i64 e]∧I'= []∧H'= [rcrI z]
def RSendQ (z:RCr) (n:Int) (r:Rdg):Value→List It→List It→Prop:=fun v I' H'=> (grd z.c n=none∧RErrQ z 5 v I' H')∨∃s,grd z.c n=some s∧((r.kind=10∧RErrQ z 120 v I' H')∨(r.kind≠10∧RSendR z s r v I' H'))
def RRollR (z:RCr) (s:Sr):Value→List It→List It→Prop:=fun v I' H'=> I'= []∧((sendE (z.snd s) (rollR (z.ep s.id.toNat))≠0∧v= .tuple #[.slice none 0 0, .int .i64 (sendE (z.snd s) (rollR (z.ep s.id.toNat)))]∧H'= [rcrI z])∨
 (sendE (z.snd s) (rollR (z.ep s.id.toNat))=0∧∃rb rc bo bc so soc,v= .tuple #[slO rb (frB (frS (z.snd s) (rollR (z.ep s.id.toNat)))).length rc, .int .i64 0]∧H'= [rcrI ((((z.setC s.id.toNat (z.ct s.id.toNat+1)).put ⟨frS (z.snd s) (rollR (z.ep s.id.toNat)),bo,bc⟩ so soc).setE s.id.toNat (z.ep s.id.toNat+1)).setC s.id.toNat 0),own rb rc 5 1 (frB (frS (z.snd s) (rollR (z.ep s.id.toNat)))).length (bytes (frB (frS (z.snd s) (rollR (z.ep s.id.toNat)))))]))
def RRollQ (z:RCr) (n:Int):Value→List It→List It→Prop:=fun v I' H'=> (grd z.c n=none∧RErrQ z 5 v I' H')∨∃s,grd z.c n=some s∧((z.ep s.id.toNat=4294967295∧RErrQ z 3 v I' H')∨(z.ep s.id.toNat≠4294967295∧RRollR z s v I' H'))
theorem rollR_ok {ep:Nat} (h:ep < 4294967295):(rollR ep).Ok:=⟨rfl,rfl,rfl,rfl,rfl,rfl,rfl,rfl,rfl,rfl,rfl,rfl,rfl,rfl,rfl,rfl,by simp only [rollR,wfk,Lit.wf,IntKind.min,IntKind.max,IntKind.signed,IntKind.bits,Bool.and_eq_true,decide_eq_true_eq,Bool.false_eq_true,if_false];omega,rfl,rfl,rfl,rfl⟩
theorem rSend_any (z:RCr) (n:Int) (r:Rdg) (hr:r.Ok) (hz:z.Ok) (hm:z.l.length < 1000):Spc prog 44 #[.pointer (some ⟨z.b,0,none⟩), .int .i64 n, .agg r.cells.toArray] [rcrS z] [rcrI z] (RSendQ z n r):=by
 have h57:r.cells.length=57:=rfl
 refine Spc.en func44 rfl rfl (fun w0 hw0=> ?_)
 refine CW.sg [0] [] (RL.box rfl ?_)
 intro b1
 refine RL.qn rfl (CW.ss (CW.fP (A:= [cel b1 r.cells 69]) (B:= [rcrI z]) pE rfl ?_))
 refine CW.gI (fun J hJ=> ?_)
 have m1:cel b1 r.cells 69∈J:=hJ _ zm
 have mS:rcrS z∈J:=hJ _ zm
 clear hJ
 have fk:RdI J ⟨b1,0+0,none⟩ (.int .i64 r.kind):=⟨fun _=> Rd.celI m1 rfl⟩
 have fA:RdsN J ⟨b1,0,none⟩ 57 r.cells:=⟨fun _=> Rds.allI m1,h57⟩
 have hgr:=rgrd_any z n hz
 cases hg:grd z.c n with
 | none=>
  obtain ⟨s,hs,hv⟩:=grd_none hg
  rw [hv] at hgr
  have h48:s.cells.length=48:=by
   rcases hs with rfl | hs
   ·rfl
   ·exact sr_len (hz.L s hs).1.rt
  refine CW.rn (ef:= [6,7]) (bk:= [7]) (RL.q rfl (RL.vv (hgr) call85 rfl (.inH mQ (.inI mS .nil)) ?_))
  refine RL.q rfl (RL.p rfl (RL.al zeroValue59 rfl ?_))
  intro b2
  refine RL.sW sizeOf59 rfl (sr_ones s) uE h48 rfl ?_
  refine RL.pn rfl (CW.ok [0,5,8,9] rfl (CW.ss (CW.s1 rfl (CW.cT rfl (rfl) (CW.sr ?_)))))
  refine RL.qn rfl (CW.rr (RQ.ss (RQ.rea (fun _ h=> h) (H':= [rcrI z]) rE ?_)))
  exact RQ.pp (res2 rfl rfl rfl) (.keep .nil) (.inl ⟨hg,rfl,rfl,rfl⟩)
 | some s=>
  obtain ⟨hv,hsm,hsn⟩:=grd_some hg
  rw [hv] at hgr
  have hsf:=(hz.L s hsm).1
  have hid:=(hz.L s hsm).2
  have h48:=sr_len hsf.rt
  obtain ⟨i,hi⟩:∃i:Nat,s.id=(i:Int):=⟨s.id.toNat,zb⟩
  have hi8:i < 8:=by omega
  have hit:s.id.toNat=i:=by omega
  have hep:=hz.ep i
  have hct:=hz.ct i
  refine CW.rn (ef:= [6,7]) (bk:= [7]) (RL.q rfl (RL.vv (hgr) call85 rfl (.inH mQ (.inI mS .nil)) ?_))
  refine RL.q rfl (RL.p rfl (RL.al zeroValue59 rfl ?_))
  intro b2
  refine RL.sW sizeOf59 rfl (sr_ones s) uE h48 rfl ?_
  refine RL.pn rfl (CW.ok [0,5,8,9] rfl (CW.ss (CW.s1 rfl (CW.cF rfl (rfl) (CW.sn ?_)))))
  refine CW.ss (CW.sr (RL.fa fa_69_0 rfl (RL.lq isAgg3 rfl ?_)))
  refine RL.pn rfl ?_
  refine CW.cd rfl (fun hk=> ?_) (fun hk=> ?_)
  ·
   refine CW.s1 rfl (CW.ok [0,5,6,7,8] rfl (CW.rr (RQ.ss ?_)))
   have hk:r.kind=10:=by simpa using hk
   refine RQ.rea (fun _ h=> h) (H':= [rcrI z]) rE ?_
   exact RQ.pp (res2 rfl rfl rfl) (.keep .nil) (.inr ⟨s,hg, .inl ⟨hk,rfl,rfl,rfl⟩⟩)
  ·
   have hk:r.kind≠10:=by simpa using hk
   refine CW.sn (CW.ok [0,5,8] rfl (CW.sg [3] [3] (RL.p rfl (RL.lW isAgg59 sizeOf59 rfl mQ h48 ?_))))
   refine RL.lS isAgg69 sizeOf69 rfl ?_
   refine RL.cq (rcsend_any z s r hr hz hsf hid hm) call86 rfl (.inr rfl) ?_
   rintro v I' H' hv
   have hv':=hv
   rcases hv' with ⟨rfl,⟨-,rfl,rfl⟩ | ⟨-,rb,rc,bo,bc,so,soc,rfl,rfl⟩⟩
   ·
    refine RL.q rfl (RL.qn rfl (CW.ok [6,7] rfl (CW.rr ?_)))
    exact RQ.pp (res2 rfl rfl rfl) (.keep (Split.nn _)) (.inr ⟨s,hg, .inr ⟨hk,hv⟩⟩)
   ·
    refine RL.q rfl (RL.qn rfl (CW.ok [6,7] rfl (CW.rr ?_)))
    exact RQ.pp (res2 rfl rfl rfl) (.keep (.keep (Split.nn _))) (.inr ⟨s,hg, .inr ⟨hk,hv⟩⟩)
theorem rRoll_any (z:RCr) (n:Int) (hz:z.Ok) (hm:z.l.length < 1000):Spc prog 45 #[.pointer (some ⟨z.b,0,none⟩), .int .i64 n] [rcrS z] [rcrI z] (RRollQ z n):=by
 refine Spc.en func45 rfl rfl (fun w0 hw0=> ?_)
 refine CW.s1 rfl (CW.ss ?_)
 have hgr:=rgrd_any z n hz
 cases hg:grd z.c n with
 | none=>
  obtain ⟨s,hs,hv⟩:=grd_none hg
  rw [hv] at hgr
  have h48:s.cells.length=48:=by
   rcases hs with rfl | hs
   ·rfl
   ·exact sr_len (hz.L s hs).1.rt
  refine CW.rn (ef:= [6,7]) (bk:= [7]) (RL.q rfl (RL.vv (hgr) call85 rfl (.inH mQ (.inI mQ .nil)) ?_))
  refine RL.q rfl (RL.p rfl (RL.al zeroValue59 rfl ?_))
  intro b1
  refine RL.sW sizeOf59 rfl (sr_ones s) uE h48 rfl ?_
  refine RL.pn rfl (CW.ok [0,1,6,7] rfl (CW.ss (CW.s1 rfl (CW.cT rfl (rfl) (CW.sr ?_)))))
  refine RL.qn rfl (CW.rr (RQ.ss (RQ.rea (fun _ h=> h) (H':= [rcrI z]) rE ?_)))
  exact RQ.pp (res2 rfl rfl rfl) (.keep .nil) (.inl ⟨hg,rfl,rfl,rfl⟩)
 | some s=>
  obtain ⟨hv,hsm,hsn⟩:=grd_some hg
  rw [hv] at hgr
  have hsf:=(hz.L s hsm).1
  have hid:=(hz.L s hsm).2
  have h48:=sr_len hsf.rt
  obtain ⟨i,hi⟩:∃i:Nat,s.id=(i:Int):=⟨s.id.toNat,zb⟩
  have hi8:i < 8:=by omega
  have hit:s.id.toNat=i:=by omega
  have hep:=hz.ep i
  have hct:=hz.ct i
  refine CW.rn (ef:= [6,7]) (bk:= [7]) (RL.q rfl (RL.vv (hgr) call85 rfl (.inH mQ (.inI mQ .nil)) ?_))
  refine RL.q rfl (RL.p rfl (RL.al zeroValue59 rfl ?_))
  intro b1
  refine RL.sW sizeOf59 rfl (sr_ones s) uE h48 rfl ?_
  refine RL.pn rfl (CW.ok [0,1,6,7] rfl (CW.ss (CW.s1 rfl (CW.cF rfl (rfl) (CW.sn ?_)))))
  refine CW.ss (CW.sr (RL.q rfl (RL.p rfl (RL.fa fa_108_2 rfl (RL.tt (d:=19) (v':= .int .i64 (i:Int)) rfl (by rw [←hsn,hi]) ?_)))))
  refine RL.iA (j:=i) runUnderlying62 sizeOf61 rfl hi8 (RL.load isAgg61 rfl (Rd.lie mQ (lie_rc z) (rcr_e hz.cm hi8)) ?_)
  refine RL.pn rfl (CW.ok [0,1,6,24] rfl ?_)
  refine CW.cd rfl (fun hk=> ?_) (fun hk=> ?_)
  ·
   refine CW.s1 rfl (CW.rr (RQ.ss ?_))
   have hk:z.ep i=4294967295:=by simp at hk;omega
   refine RQ.rea (fun _ h=> h) (H':= [rcrI z]) rE ?_
   exact RQ.pp (res2 rfl rfl rfl) (.keep .nil) (.inr ⟨s,hg, .inl ⟨by rw [hit];exact hk,rfl,rfl,rfl⟩⟩)
  ·
   have hk:z.ep i≠4294967295:=by simp at hk;omega
   have hk':z.ep s.id.toNat≠4294967295:=by rw [hit];exact hk
   have hsend:=rcsend_any z s (rollR (z.ep s.id.toNat)) (rollR_ok (by rw [hit];omega)) hz hsf hid hm
   have hRR:∀v I' H',RRollR z s v I' H'→RRollQ z n v I' H':=fun v I' H' h=> .inr ⟨s,hg, .inr ⟨hk',h⟩⟩
   rw [hit] at hsend
   refine CW.sn (CW.ss (CW.rD (Sq.of (rg 0 15)) [10] [10] [0,2,3,4,5,6,8,9,11,12,13,14,15] mixed zi ?_))
   refine RL.p rfl (RL.lW isAgg59 sizeOf59 rfl mQ h48 ?_)
   refine RL.q rfl (RL.p rfl (RL.fa fa_108_2 rfl (RL.tt (d:=29) (v':= .int .i64 (i:Int)) rfl (by rw [←hsn,hi]) ?_)))
   refine RL.iA (j:=i) runUnderlying62 sizeOf61 rfl hi8 (RL.load isAgg61 rfl (Rd.lie mQ (lie_rc z) (rcr_e hz.cm hi8)) ?_)
   refine RL.bx rfl (wrapV_u32 zb zb) ?_
   refine RL.bS (rollR (z.ep i)).cells zeroValue69 pl_69 rfl (RL.cq (hsend) call86 rfl (.inr rfl) ?_)
   rintro v I' H' hv
   rcases hv with ⟨rfl,⟨hE,rfl,rfl⟩ | ⟨hE,rb,rc,bo,bc,so,soc,rfl,rfl⟩⟩
   ·
    refine RL.q rfl (RL.p rfl (RL.qn rfl (CW.ok [0,1,8,9] rfl (CW.ss (CW.sr (RL.q rfl (RL.ee ?_)))))))
    refine NQ.ss (CW.cF rfl ((by simpa using hE)) ?_)
    refine CW.sn (CW.sr (RL.q rfl (RL.qn rfl (CW.ok [4,5] rfl (CW.rr (RQ.rea (fun _ h=> h) (H':= [rcrI z]) rE ?_))))))
    exact RQ.pp (res2 rfl rfl rfl) (.keep .nil) (hRR _ _ _ ⟨rfl, .inl ⟨by rw [hit];exact hE,by rw [hit];rfl,rfl⟩⟩)
   ·
    refine RL.q rfl (RL.p rfl (RL.qn rfl (CW.ok [0,1,8,9] rfl (CW.ss (CW.sr (RL.q rfl (RL.ee ?_)))))))
    refine NQ.ss (CW.cT rfl (rfl) ?_)
    have hR2:∀v I' H',I'= []→(v= .tuple #[slO rb (frB (frS (z.snd s) (rollR (z.ep i)))).length rc, .int .i64 0]∧H'= [rcrI ((((z.setC s.id.toNat (z.ct s.id.toNat+1)).put ⟨frS (z.snd s) (rollR (z.ep i)),bo,bc⟩ so soc).setE i (z.ep i+1)).setC i 0),own rb rc 5 1 (frB (frS (z.snd s) (rollR (z.ep i)))).length (bytes (frB (frS (z.snd s) (rollR (z.ep i)))))])→RRollQ z n v I' H':=fun v I' H' h1 ⟨h2,h3⟩=> hRR _ _ _ ⟨h1, .inr ⟨by rw [hit];exact hE,rb,rc,bo,bc,so,soc,by rw [hit];exact h2,by rw [h3];simp only [hit]⟩⟩
    generalize frS (z.snd s) (rollR (z.ep i))=f at hR2 ⊢
    generalize hz2:(z.setC s.id.toNat (z.ct s.id.toNat+1)).put ⟨f,bo,bc⟩ so soc=z2 at hR2 ⊢
    have hcm2:z2.c.cm.length=32:=by rw [←hz2];exact hz.cm
    have hb2:z2.b=z.b:=by rw [←hz2];rfl
    have he2:z2.ep i=z.ep i:=by rw [←hz2];rfl
    have hrd:=rcr_e hcm2 hi8
    rw [he2] at hrd
    have hst:=rset_e hcm2 hi8 (z.ep i+1)
    refine CW.rcrOpen (CW.rea (fun _ h=> h) (H':= [rcrC z2,rcrL z2,rcrK z2,rcrB z2,own rb rc 5 1 (frB f).length (bytes (frB f))]) rE ?_)
    rw [←hb2]
    refine CW.rD (Sq.of (rg 0 13++[15,16,14,17,18])) [14,18] [14,18] (rg 0 8++[10,11,12,13,15,16,17]) mixed zi ?_
    refine RL.q rfl (RL.q rfl (RL.q rfl (RL.p rfl (RL.fa fa_108_2 rfl (RL.tt (d:=46) (v':= .int .i64 (i:Int)) rfl (by rw [←hsn,hi]) ?_)))))
    refine RL.iA (j:=i) runUnderlying62 sizeOf61 rfl hi8 (RL.load isAgg61 rfl (Rd.get mQ hrd) ?_)
    refine RL.bx rfl (wrapV_u32 zb zb) ?_
    refine RL.p rfl (RL.fa fa_108_2 rfl (RL.tt (d:=42) (v':= .int .i64 (i:Int)) rfl (by rw [←hsn,hi]) ?_))
    refine RL.iA (j:=i) runUnderlying62 sizeOf61 rfl hi8 (RL.p rfl (RL.fa fa_108_3 rfl (RL.sX (vs:= [_]) hst sizeOf61 rfl rfl uE (by rw [rcr_len hcm2];show 0+46+i*1+1≤63;omega) ?_)))
    refine RL.tt (d:=44) (v':= .int .i64 (i:Int)) rfl (by rw [←hsn,hi]) ?_
    refine RL.iA (j:=i) runUnderlying63 sizeOf32 rfl hi8 (RL.sX (vs:= [.int .u64 ((0:Nat):Int)]) (rset_n (z:=z2.setE i (z.ep i+1)) hcm2 hi8 0) sizeOf32 rfl rfl uE (by rw [rcr_len (z:=z2.setE i (z.ep i+1)) hcm2];show 0+54+i*1+1≤63;omega) ?_)
    refine RL.ns (CW.ok [8,9] rfl (CW.sr (RL.q rfl (RL.qn rfl (CW.rr (RQ.rcr (z:=(z2.setE i (z.ep i+1)).setC i 0) (C:= [own rb rc 5 1 (frB f).length (bytes (frB f))]) rE ?_))))))
    exact RQ.pp (res2 rfl rfl rfl) (.keep (.keep .nil)) (hR2 _ _ _ rfl ⟨rfl,rfl⟩)
def RSkipQ (z:RCr) (n:Int) (m:Nat):Value→List It→List It→Prop:=fun v I' H'=> (grd z.c n=none∧v= .int .i64 5∧I'= []∧H'= [rcrI z])∨∃s,grd z.c n=some s∧v= .int .i64 0∧I'= []∧H'= [rcrI (z.setC s.id.toNat (skipC (z.ct s.id.toNat) m))]
theorem wrap_sum (a b:Nat):Value.int .u64 (IntKind.u64.wrap ((a:Int)+b))= .int .u64 (((a+b) % 18446744073709551616:Nat):Int):=by
 congr 1
theorem rSkip_any (z:RCr) (n:Int) (m:Nat) (hz:z.Ok) (hm:m < 18446744073709551616):Spc prog 46 #[.pointer (some ⟨z.b,0,none⟩), .int .i64 n, .int .u64 (m:Int)] [rcrS z] [rcrI z] (RSkipQ z n m):=by
 refine Spc.en func46 rfl rfl (fun w0 hw0=> ?_)
 refine CW.sr (RL.pn rfl (CW.s2 ?_))
 have hgr:=rgrd_any z n hz
 cases hg:grd z.c n with
 | none=>
  obtain ⟨s,hs,hv⟩:=grd_none hg
  rw [hv] at hgr
  have h48:s.cells.length=48:=by
   rcases hs with rfl | hs
   ·rfl
   ·exact sr_len (hz.L s hs).1.rt
  refine CW.rn (ef:= [6,7]) (bk:= [7]) (RL.q rfl (RL.vv (hgr) call85 rfl (.inH mQ (.inI mQ .nil)) ?_))
  refine RL.q rfl (RL.p rfl (RL.al zeroValue59 rfl ?_))
  intro b1
  refine RL.sW sizeOf59 rfl (sr_ones s) uE h48 rfl ?_
  refine RL.pn rfl (CW.ok [0,1,2,6,8] rfl (CW.s1 rfl (CW.cT rfl (rfl) (CW.sr (RL.p rfl ?_)))))
  refine RL.ns (CW.rr (RQ.ss (RQ.rea (fun _ h=> h) (H':= [rcrI z]) rE ?_)))
  exact RQ.pp (res1 rfl rfl) (.keep .nil) (.inl ⟨hg,rfl,rfl,rfl⟩)
 | some s=>
  obtain ⟨hv,hsm,hsn⟩:=grd_some hg
  rw [hv] at hgr
  have hsf:=(hz.L s hsm).1
  have hid:=(hz.L s hsm).2
  have h48:=sr_len hsf.rt
  obtain ⟨i,hi⟩:∃i:Nat,s.id=(i:Int):=⟨s.id.toNat,zb⟩
  have hi8:i < 8:=by omega
  have hit:s.id.toNat=i:=by omega
  have hep:=hz.ep i
  have hct:=hz.ct i
  refine CW.rn (ef:= [6,7]) (bk:= [7]) (RL.q rfl (RL.vv (hgr) call85 rfl (.inH mQ (.inI mQ .nil)) ?_))
  refine RL.q rfl (RL.p rfl (RL.al zeroValue59 rfl ?_))
  intro b1
  refine RL.sW sizeOf59 rfl (sr_ones s) uE h48 rfl ?_
  refine RL.pn rfl (CW.ok [0,1,2,6,8] rfl (CW.s1 rfl (CW.cF rfl (rfl) (CW.sn (CW.ss ?_)))))
  refine CW.rg (RL.q rfl (RL.p rfl (RL.fa fa_108_3 rfl ?_)))
  have hst:=rset_n hz.cm hi8 (skipC (z.ct i) m)
  have hq:((z.ct i+m) % 18446744073709551616 < m∧skipC (z.ct i) m=18446744073709551615)∨(¬(z.ct i+m) % 18446744073709551616 < m∧skipC (z.ct i) m=(z.ct i+m) % 18446744073709551616):=by unfold skipC;omega
  refine RL.tt (d:=19) (v':= .int .i64 (i:Int)) rfl (by rw [←hsn,hi]) ?_
  refine RL.iA (j:=i) runUnderlying63 sizeOf32 rfl hi8 (RL.load isAgg32 rfl (Rd.lie mQ (lie_rc z) (rcr_n hz.cm hi8)) ?_)
  refine RL.q rfl (RL.tt (d:=25) rfl (wrap_sum (z.ct i) m) ?_)
  refine RL.pn rfl (CW.ok [0,1,2,9] rfl (CW.ss (CW.sr (RL.p rfl (RL.qn rfl ?_)))))
  refine CW.cd rfl (fun hk=> ?_) (fun hk=> ?_)
  ·
   have hk:(z.ct i+m) % 18446744073709551616 < m:=by simp at hk;omega
   have hs:skipC (z.ct i) m=18446744073709551615:=by omega
   refine CW.rg (RL.pn rfl (CW.ss (CW.rea (fun _ h=> h) (H':= [rcrI z]) rE ?_)))
   refine CW.rcrOpen (C:= []) (CW.perm (List.Perm.refl [rcrC z,rcrL z,rcrK z,rcrB z]) ?_)
   rw [hs] at hst
   refine CW.rn (ef:= [6]) (bk:= [6]) (RL.q rfl (RL.q rfl (RL.fa fa_108_3 rfl (RL.tt (d:=30) (v':= .int .i64 (i:Int)) rfl (by rw [←hsn,hi]) ?_))))
   refine RL.iA (j:=i) runUnderlying63 sizeOf32 rfl hi8 (RL.sX (vs:= [_]) hst sizeOf32 rfl rfl uE (by rw [rcr_len hz.cm];show 0+54+i*1+1≤63;omega) ?_)
   refine RL.ns (CW.ok [] rfl (CW.sr (RL.pn rfl (CW.rr (RQ.rcr (z:=z.setC i 18446744073709551615) (C:= []) rE ?_)))))
   exact RQ.pp (res1 rfl rfl) (.keep .nil) (.inr ⟨s,hg,rfl,rfl,by rw [hit,hs]⟩)
  ·
   have hk: ¬(z.ct i+m) % 18446744073709551616 < m:=by simp at hk;omega
   have hs:skipC (z.ct i) m=(z.ct i+m) % 18446744073709551616:=by omega
   refine CW.sn (CW.ss (CW.rea (fun _ h=> h) (H':= [rcrI z]) rE ?_))
   refine CW.rcrOpen (C:= []) (CW.perm (List.Perm.refl [rcrC z,rcrL z,rcrK z,rcrB z]) ?_)
   rw [hs] at hst
   refine CW.rn (ef:= [6]) (bk:= [6]) (RL.q rfl (RL.q rfl (RL.fa fa_108_3 rfl (RL.tt (d:=30) (v':= .int .i64 (i:Int)) rfl (by rw [←hsn,hi]) ?_))))
   refine RL.iA (j:=i) runUnderlying63 sizeOf32 rfl hi8 (RL.sX (vs:= [_]) hst sizeOf32 rfl rfl uE (by rw [rcr_len hz.cm];show 0+54+i*1+1≤63;omega) ?_)
   refine RL.ns (CW.ok [] rfl (CW.sr (RL.pn rfl (CW.rr (RQ.rcr (z:=z.setC i ((z.ct i+m) % 18446744073709551616)) (C:= []) rE ?_)))))
   exact RQ.pp (res1 rfl rfl) (.keep .nil) (.inr ⟨s,hg,rfl,rfl,by rw [hit,hs]⟩)
theorem rsat_any (s:Sch) (t:Int):Spc prog 88 #[.agg #[.int .i64 s.st, .int .i64 s.ln, .int .i64 s.lg, .int .i64 s.of], .int .i64 t] [] [] (Is (s.atV t)):=by
 by_cases hok:s.Ok∧tickB t=true
 ·have he:s.e=0:=if_pos hok.1
  rw [at_ok hok]
  have hs':=hok.1
  have ht':=hok.2
  have hb:=bg_bd hok.1 hok.2
  unfold Sch.Ok at hs'
  simp [tickB] at ht'
  refine Spc.en func88 rfl rfl (fun w0 hw0=> ?_)
  refine CW.sg [0] [] (RL.box rfl ?_)
  intro b1
  refine RL.qn rfl (CW.ss (CW.sr (RL.ld (vs:= [_,_,_,_]) isAgg45 sizeOf45 rfl zh ?_)))
  refine RL.vq (rscheck s) call79 rfl ?_
  refine RL.q rfl ?_
  apply RL.orB (d:=9) (dp:=13) (l':=(Sq.of [])) rfl (sK [1,2,4,5] rfl)
  ·
   intro hb4 K4
   refine RL.p rfl (RL.vq (rtick t) call131 rfl ?_)
   refine RL.q rfl ?_
   exact K4 _ (.cons rfl (sK [1,2,4,5] rfl))
  ·
   intro hb4 K4
   refine RL.q rfl (RL.q rfl ?_)
   exact K4 _ (.cons rfl (sK [1,2,4,5] rfl))
  refine RL.ns (CW.cF rfl ((by rw [he,hok.2];rfl)) ?_)
  refine CW.sn (CW.ss (CW.sr (RL.p rfl (RL.fa fa_45_0 rfl (RL.lq isAgg3 rfl ?_)))))
  refine RL.pn rfl ?_
  refine CW.cd rfl (fun hlt=> ?_) (fun hlt=> ?_)
  ·
   refine CW.s1 rfl (CW.rr (RQ.ss ?_))
   have hlt:t < s.st:=by simpa using hlt
   exact RQ.pp (res2 rfl rfl rfl) (Split.nn _) ⟨by rw [Sch.bg,if_pos hlt];rfl,rfl,rfl⟩
  ·
   have hlt: ¬t < s.st:=by simpa using hlt
   have hq:=tdiv_bd (a:=t - s.st) (b:=s.ln) zb zb
   have hbg:s.bg t=(t - s.st).tdiv s.ln+1:=by rw [Sch.bg,if_neg hlt]
   refine CW.sn (CW.ok [1,2] rfl (CW.sr (RL.p rfl (RL.fa fa_45_0 rfl (RL.lq isAgg3 rfl ?_)))))
   refine RL.bx rfl (wrapV_i64 zb zb) ?_
   refine RL.fa fa_45_1 rfl (RL.lq isAgg3 rfl ?_)
   refine RL.quoX (v':= .int .i64 ((t - s.st).tdiv s.ln)) rfl zb (wrapV_i64 zb zb) ?_
   refine RL.bx rfl (wrapV_i64 zb zb) ?_
   refine RL.min rfl (RL.conv runUnderlying3 runUnderlying61 rfl (RL.tt (d:=27) (v':= .int .u32 (n32 (s.bg t):Int)) rfl (by rw [wrapV_u32 zb zb];congr 1;unfold n32;omega) ?_))
   refine RL.qn rfl (CW.ok [4,5] rfl (CW.rr ?_))
   exact RQ.pp (res2 rfl rfl rfl) (Split.nn _) ⟨rfl,rfl,rfl⟩
 ·rw [at_no hok]
  refine Spc.en func88 rfl rfl (fun w0 hw0=> ?_)
  refine CW.sg [0] [] (RL.box rfl ?_)
  intro b1
  refine RL.qn rfl (CW.ss (CW.sr (RL.ld (vs:= [_,_,_,_]) isAgg45 sizeOf45 rfl zh ?_)))
  refine RL.vq (rscheck s) call79 rfl ?_
  refine RL.q rfl ?_
  apply RL.orB (d:=9) (dp:=13) (l':=(Sq.of [])) rfl (sK [1,2,4,5] rfl)
  ·
   intro hb4 K4
   refine RL.p rfl (RL.vq (rtick t) call131 rfl ?_)
   refine RL.q rfl ?_
   exact K4 _ (.cons rfl (sK [1,2,4,5] rfl))
  ·
   intro hb4 K4
   refine RL.q rfl (RL.q rfl ?_)
   exact K4 _ (.cons rfl (sK [1,2,4,5] rfl))
  refine RL.ns (CW.cT rfl ((by rcases sch_no hok with h | ⟨_,h⟩ <;> simp [h])) ?_)
  refine CW.s1 rfl (CW.rr (RQ.ss ?_))
  exact RQ.pp (res2 rfl rfl rfl) (Split.nn _) ⟨rfl,rfl,rfl⟩
theorem rsdue_any (s:Sch) (t:Int):Spc prog 92 #[.agg #[.int .i64 s.st, .int .i64 s.ln, .int .i64 s.lg, .int .i64 s.of], .int .i64 t] [] [] (Is (s.dueV t)):=by
 have hat:=rsat_any s t
 by_cases hok:s.Ok∧tickB t=true
 ·rw [at_ok hok] at hat
  have hb:=bg_bd hok.1 hok.2
  have hs':=hok.1
  have ht':=hok.2
  unfold Sch.Ok at hs'
  simp [tickB] at ht'
  have hn:(n32 (s.bg t):Int)=min (s.bg t) 4294967295:=by unfold n32;omega
  have hD:s.dueV t= .tuple #[.int .u32 (n32 (s.bg t - s.lg):Int), .int .i64 0]:=if_pos hok
  refine Spc.en func92 rfl rfl (fun w0 hw0=> ?_)
  refine CW.sg [0] [] (RL.box rfl ?_)
  intro b1
  refine RL.qn rfl (CW.sr (RL.ld (vs:= [_,_,_,_]) isAgg45 sizeOf45 rfl zh ?_))
  refine RL.p rfl (RL.vq (hat) call88 rfl ?_)
  refine RL.q rfl (RL.p rfl (RL.qn rfl (CW.ok [1,2,6,7] rfl (CW.ss (CW.sr (RL.q rfl (RL.ee ?_)))))))
  refine NQ.ss (CW.cF rfl (rfl) (CW.sn (CW.ss (CW.s1 rfl ?_))))
  refine CW.cd rfl (fun h1=> ?_) (fun h1=> ?_)
  ·
   have h1:s.bg t≥4294967295:=by simp at h1;omega
   have hlt: ¬t < s.st:=fun h=> by rw [Sch.bg,if_pos h] at h1;omega
   have hbg:s.bg t=(t - s.st).tdiv s.ln+1:=by rw [Sch.bg,if_neg hlt]
   have hq:=tdiv_bd (a:=t - s.st) (b:=s.ln) zb zb
   refine CW.ss (CW.rD (Sq.of (rg 0 14)) [] [] [0,1,3,4,6,7,8,10,11,12,13,14] mixed zi ?_)
   refine RL.p rfl (RL.fa fa_45_0 rfl (RL.lq isAgg3 rfl ?_))
   refine RL.bx rfl (wrapV_i64 zb zb) ?_
   refine RL.fa fa_45_1 rfl (RL.lq isAgg3 rfl ?_)
   refine RL.quoX (v':= .int .i64 ((t - s.st).tdiv s.ln)) rfl zb (wrapV_i64 zb zb) ?_
   refine RL.bx rfl (wrapV_i64 zb zb) ?_
   refine RL.fa fa_45_2 rfl (RL.lq isAgg3 rfl ?_)
   refine RL.bx rfl (wrapV_i64 zb zb) ?_
   refine RL.min rfl (RL.conv runUnderlying3 runUnderlying61 rfl (RL.tt (d:=31) (v':= .int .u32 (n32 (s.bg t - s.lg):Int)) rfl (by rw [wrapV_u32 zb zb];congr 1;unfold n32;omega) ?_))
   refine RL.qn rfl (CW.ok [2,4,5,6] rfl (CW.rr (RQ.ss ?_)))
   exact RQ.pp (res2 rfl rfl rfl) (Split.nn _) ⟨hD.symm,rfl,rfl⟩
  ·
   have h1:s.bg t < 4294967295:=by simp at h1;omega
   refine CW.sn (CW.ok [2,6] rfl (CW.sr (RL.p rfl (RL.conv runUnderlying61 runUnderlying3 rfl (RL.tt (d:=33) rfl (wrapV_i64 (n:=(n32 (s.bg t):Int)) zb zb) ?_)))))
   refine RL.fa fa_45_2 rfl (RL.lq isAgg3 rfl ?_)
   refine RL.bx rfl (wrapV_i64 zb zb) ?_
   refine RL.max rfl (RL.conv runUnderlying3 runUnderlying61 rfl (RL.tt (d:=38) (v':= .int .u32 (n32 (s.bg t - s.lg):Int)) rfl (by rw [wrapV_u32 zb zb];congr 1;unfold n32 at hn ⊢;omega) ?_))
   refine RL.qn rfl (CW.ok [4,5] rfl (CW.rr ?_))
   exact RQ.pp (res2 rfl rfl rfl) (Split.nn _) ⟨hD.symm,rfl,rfl⟩
 ·rw [at_no hok] at hat
  refine Spc.en func92 rfl rfl (fun w0 hw0=> ?_)
  refine CW.sg [0] [] (RL.box rfl ?_)
  intro b1
  refine RL.qn rfl (CW.sr (RL.ld (vs:= [_,_,_,_]) isAgg45 sizeOf45 rfl zh ?_))
  refine RL.p rfl (RL.vq (hat) call88 rfl ?_)
  refine RL.q rfl (RL.p rfl (RL.qn rfl (CW.ok [1,2,6,7] rfl (CW.ss (CW.sr (RL.q rfl (RL.ee ?_)))))))
  refine NQ.ss (CW.cT rfl (rfl) (CW.sr (RL.p rfl (RL.qn rfl (CW.rr (RQ.ss ?_))))))
  exact RQ.pp (res2 rfl rfl rfl) (Split.nn _) ⟨by rw [Sch.dueV,if_neg hok];rfl,rfl,rfl⟩
theorem zs {p:Prop} (h:p:=by simp [e8];omega):p:=h
theorem zt {p:Prop} (h:p:=by simp [c8];omega):p:=h
end Go.Proofs.YtkineolcmdecjaaGreat
