import Derived.Test.YtkineolcmdecjaaGreatTB
import Derived.Test.YtkineolcmdecjaaGreatRD
import Derived.Test.YtkineolcmdecjaaGreatRE
import Derived.Test.YtkineolcmdecjaaGreatEE
import Derived.Test.YtkineolcmdecjaaGreatED
import Derived.Test.YtkineolcmdecjaaGreatEF
namespace Go.Proofs.YtkineolcmdecjaaGreat
open Go.PK
def lk0:List Lk:=List.replicate 8 ⟨0,0,0⟩
theorem lk0_at {s:Nat} (h:s < 8):lk0[s]? =some ⟨0,0,0⟩:=by rw [lk0,List.getElem?_replicate,if_pos h]
theorem kmay_lk0 {s:Int} (h:mayB s=true):kmay lk0 s 0=0:=by
 have h8:s.toNat < 8:=by simp [mayB] at h;omega
 rw [kmay,if_pos ⟨h,rfl⟩,lk0_at h8];rfl
theorem good_lk0 (s:Int):goodL lk0 s=lk0:=by
 unfold goodL
 split
 ·next h=>
  have h8:s.toNat < 8:=by simp [mayB] at h;omega
  rw [lk0_at h8]
  dsimp only
  apply List.ext_getElem?
  intro j
  rw [List.getElem?_set]
  split
  ·next e=> subst e;rw [if_pos (by simp [lk0];omega),lk0_at h8]
  ·rfl
 ·rfl
theorem atO_setR {R:List One} {s:Int} {o:One} (h:atO R s=some o) (e:Nat) (g:Int) (s':Int):atO (setR R s e g) s'=if s'=s then some { o with e:=e,g:=g } else atO R s':=by
 rcases atN_spec R s with ⟨_,h2⟩ | ⟨i,p,h1,h2,h3⟩
 ·rw [h] at h2;cases h2
 rw [h] at h3;cases h3
 rw [setR,h1,h]
 dsimp only
 have hos:=(atO_mem h).2
 obtain ⟨hi,hno⟩:i < R.length∧∀j (hj:j < i) (hl:j < R.length),((R[j].s:Int)==s)=false:=by
  rw [atN,List.findIdx?_eq_some_iff_getElem] at h1
  obtain ⟨a,b,c⟩:=h1
  exact ⟨a,fun j hj hl=> by simpa using c j hj⟩
 have hR:R=R.take i++o::R.drop (i+1):=by
  have:R[i]=o:=by rw [List.getElem?_eq_getElem hi] at h2;exact Option.some.inj h2
  rw [←this,←List.drop_eq_getElem_cons hi,List.take_append_drop]
 have hS:R.set i { o with e:=e,g:=g }=R.take i++ { o with e:=e,g:=g }::R.drop (i+1):=by
  rw [List.set_eq_take_append_cons_drop,if_pos hi]
 have hpre:∀x∈R.take i,((x.s:Int)==s)=false:=fun x hx=> by
  obtain ⟨j,hj⟩:=List.mem_iff_getElem?.1 hx
  obtain ⟨hj1,hj2⟩:=List.getElem?_eq_some_iff.1 hj
  rw [List.length_take] at hj1
  rw [List.getElem_take] at hj2
  rw [←hj2];exact hno j zb zb
 by_cases hs:s'=s
 ·rw [if_pos hs,hs,hS,atO,List.find?_append,List.find?_eq_none.2 (fun x hx=> by rw [hpre x hx];simp)]
  simp [hos]
 ·rw [if_neg hs,hS]
  conv=> rhs;rw [hR]
  rw [atO,atO,List.find?_append,List.find?_append,List.find?_cons_of_neg,List.find?_cons_of_neg]
  ·simp;omega
  ·simp;omega
theorem setR_mem {R:List One} {s:Int} {e:Nat} {g:Int} {o:One} (h:o∈setR R s e g):∃x∈R,o.k=x.k∧(o.e=x.e∨o.e=e):=by
 rcases atN_spec R s with ⟨h1,h2⟩ | ⟨i,p,h1,h2,h3⟩
 ·rw [setR,h1] at h;exact ⟨o,h,rfl, .inl rfl⟩
 ·rw [setR,h1,h3] at h
  rcases List.mem_or_eq_of_mem_set h with h | h
  ·exact ⟨o,h,rfl, .inl rfl⟩
  ·exact ⟨p,List.mem_of_getElem? h2,by rw [h], .inr (by rw [h])⟩
theorem setR_len (R:List One) (s:Int) (e:Nat) (g:Int):(setR R s e g).length=R.length:=by
 unfold setR;split <;> simp
structure GJ (c:Cf) (ep ct:Nat→Nat) (g:RS):Prop where
 r:ROk g.R
 e1:∀o∈g.R,1≤o.e
 e2:∀o∈g.R,o.e < 4294967296
 n:g.R.length≤8
 wl:g.W.length≤1000
 l:g.l=lk0
 w:∀s k,grd c s.id=some s→(kindsL s.kd).contains k=true→hasW g.W s.id k=true
 k:∀s,grd c s.id=some s→∃o,atO g.R s.id=some o∧o.k=s.rt∧o.e=ep s.id.toNat
 m:∀i:Nat,∀p,g.M (i:Int)=some p→p.1 < ep i∨(p.1=ep i∧p.2≤ct i)
theorem GJ.ok {c:Cf} {ep ct:Nat→Nat} {g:RS} (h:GJ c ep ct g) {d:Nat} (hd:g.D.length≤d) (hd2:d≤100000):RSOk g:=⟨h.r,h.e1,h.e2,h.n,by rw [h.l];rfl,by have:=h.wl;omega,zb⟩
theorem GJ.mono {c:Cf} {ep ct ct':Nat→Nat} {g:RS} (h:GJ c ep ct g) (hc:∀i,ct i≤ct' i):GJ c ep ct' g:=
 ⟨h.r,h.e1,h.e2,h.n,h.wl,h.l,h.w,h.k,fun i p hp=> by
  rcases h.m i p hp with h1 | ⟨h1,h2⟩
  ·exact .inl h1
  ·exact .inr ⟨h1,Nat.le_trans h2 (hc i)⟩⟩
theorem upN_le {f:Nat→Nat} {i v:Nat} (h:f i≤v):∀j,f j≤upN f i v j:=fun j=> by
 unfold upN;split
 ·next e=> subst e;exact h
 ·exact Nat.le_refl _
theorem GJ.lookF {c:Cf} {ep ct:Nat→Nat} {g:RS} (h:GJ c ep ct g) {s:Sr} {f:Fr} (hs:grd c s.id=some s) (hid:0≤s.id∧s.id≤7) (hsr:f.sr=s.id) (hk:(kindsL s.kd).contains f.kd=true) (hep:f.ep=ep s.id.toNat) (hct:f.ct=ct s.id.toNat+1) (htg:f.tag=macTag (deriveK s.rt epochL f.ep) f.signed) (mo ti:Int):
  lkE (rK g f 0) (rY g f) g.l g.M f 0=0∧lkL mo ti (rK g f 0) (rY g f) g.l g.M f 0=lk0∧lkM (rK g f 0) (rY g f) g.l g.M f 0=updM g.M s.id (ep s.id.toNat,ct s.id.toNat+1):=by
 obtain ⟨o,ho,hok,hoe⟩:=h.k s hs
 have ht0:tickB 0=true:=rfl
 have hm:mayB s.id=true:=by simp [mayB];omega
 have hfm:fmark f=(ep s.id.toNat,ct s.id.toNat+1):=by rw [fmark,hep,hct]
 have hK:rK g f 0=(deriveK s.rt epochL f.ep,0):=by
  show rkeyM g.R f.sr f.ep 0=_
  rw [hsr,rkeyM,if_pos ⟨ht0,hm⟩,ho]
  dsimp only
  rw [if_pos (by rw [rgoesB,hoe,hep];simp),hok]
 have hY:rY g f=true:=by show hasW g.W f.sr f.kd=true;rw [hsr];exact h.w _ _ hs hk
 generalize rK g f 0=K at hK ⊢
 generalize rY g f=Y at hY ⊢
 have hT:lkT K f=0:=by
  rw [lkT,hK]
  dsimp only
  rw [if_pos rfl,←htg,if_pos (beq_self_eq_true _)]
 have hM:mmay g.M f.sr (fmark f)=0:=by
  rw [hsr,hfm,mmay,if_pos hm]
  cases hq:g.M s.id with
  | none=> rfl
  | some q=>
   dsimp only
   have:=h.m s.id.toNat q (by rw [show ((s.id.toNat:Nat):Int)=s.id by omega];exact hq)
   rw [if_pos]
   unfold gtB
   dsimp only
   split
   ·simp;omega
   ·simp;omega
 have hl:kmay g.l f.sr 0=0:=by rw [h.l,hsr];exact kmay_lk0 hm
 have hB:lkB Y g.l f 0=true:=by rw [lkB,hY,hl,ht0];rfl
 refine ⟨?_, ?_, ?_⟩
 ·rw [lkE,if_pos ht0,if_pos hY,if_pos hl,if_pos hT,hM]
 ·rw [lkL,if_pos hB,if_pos hT,if_pos hM,h.l,good_lk0]
 ·rw [lkM,if_pos hB,if_pos hT,takeM,if_pos hM,hfm,hsr]
theorem sign_tag (f:Fr) (k:List B8):(f.sign k).tag=macTag (deriveK k epochL (f.sign k).ep) (f.sign k).signed:=by
 have h:(f.sign k).signed=f.signed:=by simp only [Fr.signed,Fr.sign]
 rw [h,show (f.sign k).ep=f.ep by rw [Fr.sign]]
 rw [Fr.sign]
theorem GJ.look {c:Cf} {ep ct:Nat→Nat} {g:RS} (h:GJ c ep ct g) {s:Sr} {x:Snd} {r:Rdg} (hs:grd c s.id=some s) (hid:0≤s.id∧s.id≤7) (hx:x.s=s) (h1:x.ep=ep s.id.toNat) (h2:x.ct=ct s.id.toNat) (hk:(kindsL s.kd).contains r.kind=true) (mo ti:Int):
  lkE (rK g (frS x r) 0) (rY g (frS x r)) g.l g.M (frS x r) 0=0∧lkL mo ti (rK g (frS x r) 0) (rY g (frS x r)) g.l g.M (frS x r) 0=lk0∧lkM (rK g (frS x r) 0) (rY g (frS x r)) g.l g.M (frS x r) 0=updM g.M s.id (ep s.id.toNat,ct s.id.toNat+1):=by
 have hsr:(frS x r).sr=s.id:=by rw [←hx];rfl
 have hkd:(frS x r).kd=r.kind:=rfl
 have hep:(frS x r).ep=ep s.id.toNat:=h1
 have hct:(frS x r).ct=ct s.id.toNat+1:=by rw [←h2];rfl
 have htg:(frS x r).tag=macTag (deriveK s.rt epochL (frS x r).ep) (frS x r).signed:=by rw [←hx];unfold frS;exact sign_tag _ _
 generalize frS x r=f at hsr hkd hep hct htg ⊢
 exact h.lookF hs hid hsr (by rw [hkd];exact hk) hep hct htg mo ti
theorem m_upd {ep ct:Nat→Nat} {M:Marks} {s:Int} (hid:0≤s) (h:∀i:Nat,∀p,M (i:Int)=some p→p.1 < ep i∨(p.1=ep i∧p.2≤ct i)):∀i:Nat,∀p,updM M s (ep s.toNat,ct s.toNat+1) (i:Int)=some p→p.1 < ep i∨(p.1=ep i∧p.2≤upN ct s.toNat (ct s.toNat+1) i):=fun i p hp=> by
 unfold updM at hp
 split at hp
 ·next e=>
  cases hp
  have:i=s.toNat:=by omega
  subst this
  exact .inr ⟨rfl,by simp [upN]⟩
 ·next e=>
  rcases h i p hp with h1 | ⟨h1,h2⟩
  ·exact .inl h1
  ·exact .inr ⟨h1,by unfold upN;split <;> (try subst_vars) <;> omega⟩
theorem GJ.take {c:Cf} {ep ct:Nat→Nat} {g g':RS} (h:GJ c ep ct g) {s:Sr} (hid:0≤s.id) (hR:g'.R=g.R) (hW:g'.W=g.W) (hl:g'.l=lk0) (hM:g'.M=updM g.M s.id (ep s.id.toNat,ct s.id.toNat+1)):GJ c ep (upN ct s.id.toNat (ct s.id.toNat+1)) g':=
 ⟨by rw [hR];exact h.r,by rw [hR];exact h.e1,by rw [hR];exact h.e2,by rw [hR];exact h.n,by rw [hW];exact h.wl,hl,by rw [hW];exact h.w,by rw [hR];exact h.k,by rw [hM];exact m_upd hid h.m⟩
theorem GJ.roll {c:Cf} {ep ct:Nat→Nat} {g g':RS} (h:GJ c ep ct g) {s:Sr} (hs:grd c s.id=some s) (hid:0≤s.id∧s.id≤7) (he:ep s.id.toNat+1 < 4294967296) (h8:∀t,grd c t.id=some t→0≤t.id):
  rrollE g.R s.id (ep s.id.toNat+1) 0 0=0∧∀ct',(∀i,i≠s.id.toNat→ct i≤ct' i)→g'.R=rrollR g.R s.id (ep s.id.toNat+1) 0 0→g'.W=g.W→g'.l=lk0→g'.M=g.M→GJ c (upN ep s.id.toNat (ep s.id.toNat+1)) ct' g':=by
 obtain ⟨o,ho,hok,hoe⟩:=h.k s hs
 have hm:rightR 0 0=true∧mayB s.id=true:=⟨rfl,by simp [mayB];omega⟩
 have hno: ¬(o.e=4294967295∨ep s.id.toNat+1≠o.e+1):=by omega
 refine ⟨by rw [rrollE,if_pos hm,ho];dsimp only;rw [if_neg hno],fun ct' hct hR hW hl hM=> ?_⟩
 have hR:g'.R=setR g.R s.id (ep s.id.toNat+1) 0:=by rw [hR,rrollR,if_pos hm,ho];dsimp only;rw [if_neg hno];rfl
 refine ⟨?_, ?_, ?_,by rw [hR,setR_len];exact h.n,by rw [hW];exact h.wl,hl,by rw [hW];exact h.w,fun t ht=> ?_,fun i p hp=> ?_⟩
 ·rw [hR];intro x hx;obtain ⟨y,hy,h1, -⟩:=setR_mem hx;rw [h1];exact h.r y hy
 ·rw [hR];intro x hx;obtain ⟨y,hy, -,h1⟩:=setR_mem hx;have:=h.e1 y hy;omega
 ·rw [hR];intro x hx;obtain ⟨y,hy, -,h1⟩:=setR_mem hx;have:=h.e2 y hy;omega
 ·rw [hR,atO_setR ho]
  by_cases hts:t.id=s.id
  ·rw [if_pos hts]
   have:t=s:=by rw [hts,hs] at ht;exact (Option.some.inj ht).symm
   subst this
   exact ⟨_,rfl,hok,by simp [upN]⟩
  ·rw [if_neg hts]
   obtain ⟨q,hq,h1,h2⟩:=h.k t ht
   have:=h8 t ht
   exact ⟨q,hq,h1,by rw [h2];unfold upN;rw [if_neg zb]⟩
 ·rw [hM] at hp
  have:=h.m i p hp
  unfold upN
  by_cases hi:i=s.id.toNat
  ·rw [if_pos hi];subst hi;left;omega
  ·rw [if_neg hi];have:=hct i hi;omega
theorem atO_putR {R:List One} {s:Int} (h:atO R s=none) (hs:0≤s) (k:List B8) (s':Int):atO (rputR R s k) s'=if s'=s then some ⟨s.toNat,k,1, -1,0⟩ else atO R s':=by
 have hs':((s.toNat:Nat):Int)=s:=by omega
 have hno:∀x∈R,((x.s:Int)==s)=false:=fun x hx=> by simpa using List.find?_eq_none.1 h x hx
 generalize hp:insP R s=p
 rw [rputR,hp]
 by_cases e:s'=s
 ·rw [if_pos e,e,atO,List.find?_append,List.find?_eq_none.2 (fun x hx=> by rw [hno x (List.mem_of_mem_take hx)];simp)]
  simp [hs']
 ·rw [if_neg e,atO,List.find?_append,List.find?_cons_of_neg zp,←List.find?_append,List.take_append_drop];rfl
theorem putR_mem {R:List One} {s:Int} {k:List B8} {o:One} (h:o∈rputR R s k):o∈R∨o=⟨s.toNat,k,1, -1,0⟩:=by
 unfold rputR at h
 rcases List.mem_append.1 h with h | h
 ·exact .inl (List.mem_of_mem_take h)
 ·rcases List.mem_cons.1 h with h | h
  ·exact .inr h
  ·exact .inl (List.mem_of_mem_drop h)
theorem putR_len (R:List One) (s:Int) (k:List B8):(rputR R s k).length=R.length+1:=by
 have:=insP_le R s
 simp [rputR];omega
structure SJ (P:List Sr) (g:RS):Prop where
 r:ROk g.R
 e:∀o∈g.R,o.e=1
 n:g.R.length≤P.length
 wl:g.W.length≤P.length*6
 l:g.l=lk0
 m:g.M=fun _=> none
 d:g.D= []
 s:∀o∈g.R,∃t∈P,(o.s:Int)=t.id
 k:∀t∈P,kindsL t.kd≠ []→(∃o,atO g.R t.id=some o∧o.k=t.rt∧o.e=1)∧∀k,(kindsL t.kd).contains k=true→hasW g.W t.id k=true
theorem SJ.ok {P:List Sr} {g:RS} (h:SJ P g) (hP:P.length≤8):RSOk g:=
 ⟨h.r,fun o ho=> by rw [h.e o ho];decide,fun o ho=> by rw [h.e o ho];decide,by have:=h.n;omega,by rw [h.l];rfl,by have:=h.wl;omega,by rw [h.d];decide⟩
theorem sj_nil:SJ [] rs0:=⟨by simp [rs0,ROk],by simp [rs0],by simp [rs0],by simp [rs0],rfl,rfl,rfl,by simp [rs0],zm⟩
theorem SJ.no {P:List Sr} {g:RS} (h:SJ P g) {s:Sr} (hk:kindsL s.kd= []):SJ (P++ [s]) g:=
 ⟨h.r,h.e,by have:=h.n;simp;omega,by have:=h.wl;simp;omega,h.l,h.m,h.d,fun o ho=> by obtain ⟨t,ht,e⟩:=h.s o ho;exact ⟨t,by simp [ht],e⟩,fun t ht hn=> by
  rcases List.mem_append.1 ht with ht | ht
  ·exact h.k t ht hn
  ·rw [List.mem_singleton.1 ht] at hn;exact absurd hk hn⟩
theorem kinds_odd (n:Int):(kindsL n).any oddG=false:=by
 unfold kindsL
 split
 ·next h=> simp [oddG];omega
 ·split
  ·simp [oddG]
  ·rfl
theorem hasW_app (W V:List (Int×Int)) (a b:Int):hasW (W++V) a b=(hasW W a b || hasW V a b):=by rw [hasW,List.any_append];rfl
theorem hasW_rts {s:Int} {ks:List Int} {k:Int} (h:ks.contains k=true):hasW (rts s ks) s k=true:=by
 rw [hasW,List.any_eq_true]
 exact ⟨(s,k),List.mem_map.2 ⟨k,by simpa using h,rfl⟩,zm⟩
theorem SJ.yes {P:List Sr} {g g':RS} (h:SJ P g) {s:Sr} (hk:kindsL s.kd≠ []) (hid:0≤s.id∧s.id≤7) (hrt:s.rt.length=32) (hnew:∀t∈P,t.id≠s.id)
  (hR:g'.R=rsrcR g.R s.id s.rt (kindsL s.kd)) (hW:g'.W=rsrcW g.R g.W s.id (kindsL s.kd)) (hl:g'.l=g.l) (hM:g'.M=g.M) (hD:g'.D=g.D):SJ (P++ [s]) g':=by
 have hm:mayB s.id=true:=by simp [mayB];omega
 have hno:atO g.R s.id=none:=by
  rw [atO,List.find?_eq_none]
  intro o ho
  obtain ⟨t,ht,e⟩:=h.s o ho
  have:=hnew t ht
  simp;omega
 have hO: ¬(kindsL s.kd= []∨(kindsL s.kd).any oddG=true):=by rw [kinds_odd];simp [hk]
 have hE:rsrcE g.R s.id (kindsL s.kd)=0:=by rw [rsrcE,if_neg hO,rputE,if_pos hm,hno]
 have hR:g'.R=rputR g.R s.id s.rt:=by rw [hR,rsrcR,if_neg hO,rputA,if_pos hm,hno]
 have hW:g'.W=g.W++rts s.id (kindsL s.kd):=by rw [hW,rsrcW,hE,if_pos rfl]
 have hat:=atO_putR hno hid.1 s.rt
 refine ⟨?_, ?_, ?_, ?_,by rw [hl];exact h.l,by rw [hM];exact h.m,by rw [hD];exact h.d, ?_, ?_⟩
 ·rw [hR];intro o ho
  rcases putR_mem ho with ho | rfl
  ·exact h.r o ho
  ·exact hrt
 ·rw [hR];intro o ho
  rcases putR_mem ho with ho | rfl
  ·exact h.e o ho
  ·rfl
 ·rw [hR,putR_len,List.length_append];have:=h.n;simp;omega
 ·rw [hW,List.length_append,List.length_append,rts,List.length_map];have:=h.wl;have:=kindsL_len s.kd;simp;omega
 ·rw [hR];intro o ho
  rcases putR_mem ho with ho | rfl
  ·obtain ⟨t,ht,e⟩:=h.s o ho;exact ⟨t,by simp [ht],e⟩
  ·exact ⟨s,zm,by show ((s.id.toNat:Nat):Int)=s.id;omega⟩
 ·intro t ht hn
  rw [hR,hW,hat]
  rcases List.mem_append.1 ht with ht | ht
  ·obtain ⟨⟨o,h1,h2⟩,h3⟩:=h.k t ht hn
   rw [if_neg (hnew t ht)]
   exact ⟨⟨o,h1,h2⟩,fun k hk=> by rw [hasW_app,h3 k hk];rfl⟩
  ·rw [List.mem_singleton.1 ht,if_pos rfl]
   exact ⟨⟨_,rfl,rfl,rfl⟩,fun k hk=> by rw [hasW_app,hasW_rts hk,Bool.or_true]⟩
theorem SJ.gj {c:Cf} {g:RS} (h:SJ c.L g) (h8:c.L.length≤8) {ep ct:Nat→Nat} (he:ep=epI c.L) (hid:∀s∈c.L,0≤s.id∧s.id≤7):GJ c ep ct g:=by
 have hgr:∀s,grd c s.id=some s→s∈c.L∧kindsL s.kd≠ []:=fun s hs=> by
  refine ⟨(grd_some hs).2.1,fun e=> ?_⟩
  unfold grd at hs
  split at hs
  ·next t ht=>
   split at hs
   ·cases hs
   ·next hk=> cases hs;rw [e] at hk;exact hk rfl
  ·cases hs
 refine ⟨h.r,fun o ho=> by rw [h.e o ho];exact Nat.le_refl _,fun o ho=> by rw [h.e o ho];decide,by have:=h.n;omega,by have:=h.wl;omega,h.l,fun s k hs hk=> ((h.k s (hgr s hs).1 (hgr s hs).2).2 k hk),fun s hs=> ?_,fun i p hp=> by rw [h.m] at hp;cases hp⟩
 obtain ⟨⟨o,h1,h2,h3⟩, -⟩:=h.k s (hgr s hs).1 (hgr s hs).2
 refine ⟨o,h1,h2, ?_⟩
 rw [h3,he]
 unfold epI
 rw [if_pos]
 rw [List.any_eq_true]
 refine ⟨s, ?_, ?_⟩
 ·rw [sendsL,List.mem_filter];exact ⟨(hgr s hs).1,by have:=(hgr s hs).2;simpa using this⟩
 ·have:=hid s (hgr s hs).1;simp;omega
theorem cfg_ok (seed:B8):(cfgC seed).ok=true:=by
 show Cf.ok ⟨0,0,42949672960,4194304,⟨0,10,2,3⟩,cfgK seed,3,40,15,8,plainL seed [] 6⟩=true
 generalize cfgK seed=k
 rfl
theorem cfg_new (seed:B8):newE (cfgC seed) (lastK seed) 24=0:=by
 rw [newE,if_neg (by rw [Cf.err,cfg_ok];decide),if_pos zc,if_pos]
 rfl
def ArL (ep ct a b:Nat→Nat):Prop:=∀i:Nat,a i < ep i∨(a i=ep i∧b i≤ct i)
theorem ArL.mono {ep ct ct' a b:Nat→Nat} (h:ArL ep ct a b) (hc:∀i,ct i≤ct' i):ArL ep ct' a b:=fun i=> by
 have:=h i;have:=hc i;omega
theorem ArL.take {ep ct a b:Nat→Nat} (h:ArL ep ct a b) (q:Nat):ArL ep (upN ct q (ct q+1)) (upN a q (ep q)) (upN b q (ct q+1)):=fun i=> by
 have:=h i
 unfold upN
 by_cases hi:i=q
 ·simp [hi]
 ·simp only [if_neg hi];exact this
theorem ArL.roll {ep ct a b:Nat→Nat} (h:ArL ep ct a b) (q:Nat):ArL (upN ep q (ep q+1)) (upN ct q 0) (upN a q (ep q)) (upN b q (ct q+1)):=fun i=> by
 have:=h i
 unfold upN
 by_cases hi:i=q
 ·simp [hi]
 ·simp only [if_neg hi];exact this
def InG (C:Cf) (y y':RCr) (fs:List Fr) (n n' j:Nat) (g:RS) (a b:Nat→Nat):Prop:=
 g.D.length≤j∧((j=n'∧GJ C y'.ep y'.ct g∧ArL y'.ep y'.ct a b)∨(j=n∧n'=n+1∧∃f,fs= [f]∧Emt C y.ep y.ct y'.ep y'.ct f∧GJ C y.ep y.ct g∧ArL y.ep y.ct a b))
theorem InG.of {C:Cf} {y y':RCr} {fs:List Fr} {n n':Nat} {g:RS} {a b:Nat→Nat} (hst:St y y' fs) (hc:y.c=C) (hn:n'=n+fs.length) (hD:g.D.length≤n) (hg:GJ C y.ep y.ct g) (ha:ArL y.ep y.ct a b):InG C y y' fs n n' n g a b:=by
 refine ⟨hD, ?_⟩
 cases hst with
 | non ep ct=> exact .inl ⟨by simpa using hn.symm,by rw [ep];exact hg.mono ct,by rw [ep];exact ha.mono ct⟩
 | emt f h=> rw [hc] at h;exact .inr ⟨rfl,hn,f,rfl,h,hg,ha⟩
structure Shw (C:Cf) (y y':RCr) (f:Fr) (s:Sr) (q:Nat):Prop where
 gs:grd C s.id=some s
 hq:s.id=(q:Int)
 q8:q < 8
 sr:f.sr=(q:Int)
 ep:f.ep=y.ep q
 ct:f.ct=y.ct q+1
 look:∀ {g:RS},GJ C y.ep y.ct g→∀mo ti:Int,lkE (rK g f 0) (rY g f) g.l g.M f 0=0∧lkL mo ti (rK g f 0) (rY g f) g.l g.M f 0=lk0∧lkM (rK g f 0) (rY g f) g.l g.M f 0=updM g.M s.id (y.ep s.id.toNat,y.ct s.id.toNat+1)
 fin:(f.kd≠10∧y'.ep=y.ep∧y'.ct=upN y.ct q (y.ct q+1))∨(f.kd=10∧y.ep q+1 < 4294967296∧y'.ep=upN y.ep q (y.ep q+1)∧y'.ct=upN y.ct q 0)
theorem Emt.cases {C:Cf} {y y':RCr} {f:Fr} (hid:∀s∈C.L,0≤s.id∧s.id≤7) (h:Emt C y.ep y.ct y'.ep y'.ct f):((f.kd=5∨f.kd=6)∧y'.ep=y.ep∧∀i,y.ct i≤y'.ct i)∨(¬(f.kd=5∨f.kd=6)∧∃s q,Shw C y y' f s q):=by
 cases h with
 | far h hep hct=> exact .inl ⟨h,hep,fun i=> by rw [hct];exact Nat.le_refl _⟩
 | send s x r hs hx h1 h2 hk hc hf h10 hep hct=>
  have hkd:f.kd=r.kind:=by rw [hf];rfl
  by_cases h56:f.kd=5∨f.kd=6
  ·exact .inl ⟨h56,hep,by rw [hct];exact upN_le zb⟩
  ·have hi:=hid s (grd_some hs).2.1
   have hq:s.id=(s.id.toNat:Int):=by omega
   refine .inr ⟨h56,s,s.id.toNat,hs,hq,zb, ?_, ?_, ?_,fun hg mo ti=> ?_, .inl ⟨by rw [hkd];exact h10,hep,hct⟩⟩
   ·rw [hf,←hq,←hx];rfl
   ·rw [hf,←h1];rfl
   ·rw [hf,←h2];rfl
   ·rw [hf];exact hg.look hs hi hx h1 h2 hk mo ti
 | roll s x r hs hx h1 h2 hk hc hf h10 he hep hct=>
  have hkd:f.kd=10:=by rw [hf,←h10];rfl
  have hi:=hid s (grd_some hs).2.1
  have hq:s.id=(s.id.toNat:Int):=by omega
  refine .inr ⟨by rw [hkd];decide,s,s.id.toNat,hs,hq,zb, ?_, ?_, ?_,fun hg mo ti=> ?_, .inr ⟨hkd,he,hep,hct⟩⟩
  ·rw [hf,←hq,←hx];rfl
  ·rw [hf,←h1];rfl
  ·rw [hf,←h2];rfl
  ·rw [hf];exact hg.look hs hi hx h1 h2 hk mo ti
theorem e8_at {f:Nat→Nat} {q:Nat} (h:q < 8):(e8 f)[0+q*1]? =some (.int .u32 (f q:Int)):=by simp [e8,h]
theorem c8_at {f:Nat→Nat} {q:Nat} (h:q < 8):(c8 f)[0+q*1]? =some (.int .u64 (f q:Int)):=by simp [c8,h]
abbrev TS:Type:=Nat×Crw×RCr×RS×(Nat→Nat)×(Nat→Nat)
abbrev TI:Type:=Nat×RS×(Nat→Nat)×(Nat→Nat)
end Go.Proofs.YtkineolcmdecjaaGreat
