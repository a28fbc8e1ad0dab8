import Derived.Test.YtkineolcmdecjaaGreatBA
import Derived.Test.YtkineolcmdecjaaGreatPE
import Derived.Test.YtkineolcmdecjaaGreatEA
import Derived.Test.YtkineolcmdecjaaGreatUB
import Derived.Test.YtkineolcmdecjaaGreatCA
import Derived.Test.YtkineolcmdecjaaGreatPkEn
import Derived.Test.YtkineolcmdecjaaGreatKD
import Derived.Test.YtkineolcmdecjaaGreatFA
import Derived.Test.YtkineolcmdecjaaGreatUD
namespace Go.Proofs.YtkineolcmdecjaaGreat
open Go.PK
open Tryz
def Fr.hd (f:Fr):Int×Int×Nat×Nat×List B8:=(f.kd,f.sr,f.ep,f.ct,f.tag)
def hdC (f:Fr):List Value:= .int .i64 f.kd:: .int .i64 f.sr:: .int .u32 (f.ep:Int):: .int .u64 (f.ct:Int)::bytes f.tag
abbrev hdV (f:Fr):Value:= .agg (hdC f).toArray
def hdG (v:Value):Prop:=∃cs,Fits (.int .i64:: .int .i64:: .int .u32:: .int .u64::List.replicate 16 (.int .u8)) cs∧v= .agg cs.toArray
theorem keyHd:KeyT prog 163 hdG:=
 keyT_flat (m:=4) zc (by decide+kernel) zi (by decide+kernel) (by decide+kernel) ⟨_,runUnderlying163,fun _ _=> rfl⟩
structure Fr.Num (f:Fr):Prop where
 ok:f.Ok
 kd:wfk .i64 f.kd
 sr:wfk .i64 f.sr
theorem hdV_good {f:Fr} (h:f.Num):hdG (hdV f):=by
 have he:=h.ok.ep
 have hc:=h.ok.ct
 refine ⟨hdC f,⟨⟨rfl,h.kd⟩,⟨rfl,h.sr⟩,⟨rfl, ?_⟩,⟨rfl, ?_⟩,fits8 h.ok.tag⟩,rfl⟩
 ·simp only [wfk,Lit.wf,IntKind.min,IntKind.max,IntKind.signed,IntKind.bits,Bool.and_eq_true,decide_eq_true_eq,Bool.false_eq_true,if_false];omega
 ·simp only [wfk,Lit.wf,IntKind.min,IntKind.max,IntKind.signed,IntKind.bits,Bool.and_eq_true,decide_eq_true_eq,Bool.false_eq_true,if_false];omega
theorem hdV_inj {f g:Fr}:hdV f=hdV g↔f.hd=g.hd:=by
 constructor
 ·intro h
  simp only [hdV,hdC,Value.agg.injEq,Array.mk.injEq,List.cons.injEq,Value.int.injEq,true_and] at h
  obtain ⟨h1,h2,h3,h4,h5⟩:=h
  simp only [Fr.hd,Prod.mk.injEq]
  exact ⟨h1,h2,zb,zb,bytes_inj h5⟩
 ·intro h
  simp only [Fr.hd,Prod.mk.injEq] at h
  obtain ⟨h1,h2,h3,h4,h5⟩:=h
  rw [hdV,hdV,hdC,hdC,h1,h2,h3,h4,h5]
structure SE where
 f:Fr
 ob:Option Nat
 cp:Nat
 l:List FrO
abbrev SE.v (e:SE):Value:=slO e.ob e.l.length e.cp
abbrev SE.it (e:SE):It:=own e.ob e.cp 74 1 e.l.length (e.l.map FrO.sl)
def encS (E:List SE):List (Value×Value):=E.map fun e=> (hdV e.f,e.v)
def atS (E:List SE) (f:Fr):Option SE:=E.find? fun e=> decide (f.hd=e.f.hd)
def bodS (E:List SE) (f:Fr):List FrO:=match atS E f with
 | some e=> e.l
 | none=> []
theorem look_S (f:Fr):∀E:List SE,lookV (hdV f) (encS E)=(atS E f).map SE.v
 | []=> rfl
 | e::E=> by
  have ih:=look_S f E
  simp only [encS] at ih
  by_cases h:f.hd=e.f.hd
  ·have h':hdV f=hdV e.f:=hdV_inj.2 h
   simp [encS,lookV,atS,h,h']
  ·have h': ¬hdV f=hdV e.f:=fun x=> h (hdV_inj.1 x)
   simp only [encS,List.map_cons,lookV,if_neg h',ih,atS,List.find?_cons,h,decide_false]
theorem set_S_new {x:Fr} {v:SE} (hv:v.f=x):∀ {E:List SE},atS E x=none→setV (hdV x) v.v (encS E)=encS (E++ [v])
 | [],_=> by subst hv;rfl
 | e::E,h=> by
  rw [atS,List.find?_cons] at h
  by_cases he:x.hd=e.f.hd
  ·simp [he] at h
  ·simp only [he,decide_false] at h
   have h': ¬hdV x=hdV e.f:=fun y=> he (hdV_inj.1 y)
   have ih:=set_S_new hv (E:=E) h
   simp only [encS] at ih
   simp only [encS,List.map_cons,setV,if_neg h',ih,List.cons_append]
theorem set_S_old {x:Fr} {e v:SE} {B:List SE} (hx:x.hd=e.f.hd) (hv:v.f=e.f):∀ {A:List SE},(∀a∈A,x.hd≠a.f.hd)→setV (hdV x) v.v (encS (A++e::B))=encS (A++v::B)
 | [],_=> by
  have h':hdV x=hdV e.f:=hdV_inj.2 hx
  simp [encS,setV,h',hv]
 | a::A,h=> by
  have h': ¬hdV x=hdV a.f:=fun y=> h a zm (hdV_inj.1 y)
  have ih:=set_S_old (B:=B) hx hv (A:=A) (fun b hb=> h b (by simp [hb]))
  simp only [encS] at ih
  simp only [encS,List.cons_append,List.map_cons,setV,if_neg h',ih]
theorem atS_split {E:List SE} {f:Fr} {e:SE} (h:atS E f=some e):f.hd=e.f.hd∧∃A B,E=A++e::B∧∀a∈A,f.hd≠a.f.hd:=by
 obtain ⟨h1,A,B,h2,h3⟩:=List.find?_eq_some_iff_append.1 h
 exact ⟨by simpa using h1,A,B,h2,fun a ha=> by simpa using h3 a ha⟩
structure SOk (E:List SE) (l:List FrO):Prop where
 b:∀f:Fr,bodS E f=l.filter fun x=> decide (f.hd=x.f.hd)
 g:∀e∈E,e.f.Num
theorem sok_nil:SOk [] []:=⟨fun _=> rfl,zm⟩
theorem atS_mid {A B:List SE} {e:SE} {f:Fr} (ha:∀a∈A,f.hd≠a.f.hd) (he:f.hd=e.f.hd):atS (A++e::B) f=some e:=by
 rw [atS,List.find?_eq_some_iff_append]
 exact ⟨by simpa using he,A,B,rfl,fun a h=> by simpa using ha a h⟩
theorem atS_off {A B:List SE} {e v:SE} {f:Fr} (hv:v.f=e.f) (he:f.hd≠e.f.hd):atS (A++v::B) f=atS (A++e::B) f:=by
 simp [atS,List.find?_append,hv,he]
theorem SOk.hit {A B:List SE} {e v:SE} {x:FrO} {l:List FrO} (h:SOk (A++e::B) l) (ha:∀a∈A,x.f.hd≠a.f.hd) (hx:x.f.hd=e.f.hd) (hv:v.f=e.f) (hl:v.l=e.l++ [x]):SOk (A++v::B) (l++ [x]) where
 b f:=by
  by_cases hf:f.hd=x.f.hd
  ·have h0:=h.b f
   rw [bodS,atS_mid (fun a h=> by rw [hf];exact ha a h) (by rw [hf,hx])] at h0
   rw [bodS,atS_mid (fun a h=> by rw [hf];exact ha a h) (by rw [hf,hx,hv]),List.filter_append,←h0]
   simp [hl,hf]
  ·have h0:=h.b f
   rw [bodS,atS_off hv (by rw [←hx];exact hf),←bodS,h0,List.filter_append]
   simp [hf]
 g y hy:=by
  rcases List.mem_append.1 hy with hy | hy
  ·exact h.g y (by simp [hy])
  ·rcases List.mem_cons.1 hy with rfl | hy
   ·rw [hv];exact h.g e zm
   ·exact h.g y (by simp [hy])
theorem SOk.miss {E:List SE} {v:SE} {x:FrO} {l:List FrO} (h:SOk E l) (ha:atS E x.f=none) (hv:v.f=x.f) (hl:v.l= [x]) (hn:x.f.Num):SOk (E++ [v]) (l++ [x]) where
 b f:=by
  have hno:∀e∈E,x.f.hd≠e.f.hd:=fun e he=> by simpa using List.find?_eq_none.1 ha e he
  have h0:=h.b f
  by_cases hf:f.hd=x.f.hd
  ·have hnn:atS E f=none:=List.find?_eq_none.2 (fun e he=> by simpa [hf] using hno e he)
   rw [bodS,hnn] at h0
   rw [bodS,atS_mid (fun a h=> by rw [hf];exact hno a h) (by rw [hf,hv]),List.filter_append,←h0]
   simp [hl,hf]
  ·have e1:atS (E++ [v]) f=atS E f:=by simp [atS,List.find?_append,hv,hf]
   rw [bodS,e1,←bodS,h0,List.filter_append]
   simp [hf]
 g y hy:=by
  rcases List.mem_append.1 hy with hy | hy
  ·exact h.g y hy
  ·rw [List.mem_singleton.1 hy,hv];exact hn
def saidB (l:List FrO) (f:Fr):Bool:=l.any fun x=> decide (f.hd=x.f.hd) && (x.f.b==f.b)
theorem SOk.said {E:List SE} {l:List FrO} (h:SOk E l) (f:Fr):(bodS E f).any (fun x=> x.f.b==f.b)=saidB l f:=by
 rw [h.b f,saidB,List.any_filter]
theorem Lies.allI {x:It} {l:List It} (h:x∈l):Lies (PK.allI l) x:=⟨fun _ hA=> hA x h,fun b hb=> mem_bss.2 ⟨x,h,hb⟩⟩
theorem CW.openT {P:Program} {Q:Exit→Act→World→Prop} {N:Nat} {E:Env} {w0:World} {S:List Nat} {I H:List It} {cc:Code} {l:List It} (hm:PK.allI l∈I) (h:∀J,(∀x∈I,x∈J)→(∀x∈l,x∈J)→CW P cc Q N E w0 S J H):CW P cc Q N E w0 S I H:=fun a w ha hw=>
 h (l++I) (fun y hy=> List.mem_append_right _ hy) (fun y hy=> List.mem_append_left _ hy) a w ha ⟨hw.k,⟨fun x hx=> (List.mem_append.1 hx).elim (fun hx=> hw.s.i _ hm x hx) (hw.s.i x),hw.s.h,hw.s.nd,fun b hi hh=> hw.s.dj b (by
  rw [bss_app] at hi
  rcases List.mem_append.1 hi with hi | hi
  ·obtain ⟨x,hx,hbx⟩:=mem_bss.1 hi
   exact mem_bss.2 ⟨_,hm,mem_bss.2 ⟨x,hx,hbx⟩⟩
  ·exact hi) hh⟩,hw.own⟩
structure Snd where
 s:Sr
 ep:Nat
 ct:Nat
 b:Nat
def Snd.cells (x:Snd):List Value:=x.s.cells++ [.int .u32 (x.ep:Int), .int .u64 (x.ct:Int)]
abbrev sndI (x:Snd):It:=cel x.b x.cells 125
def cS (T:List Snd):List (Value×Value):=T.map fun x=> (.int .i64 x.s.id, .pointer (some ⟨x.b,0,none⟩))
def atT (T:List Snd) (n:Int):Option Snd:=T.find? fun x=> decide (n=x.s.id)
structure Crw where
 b:Nat
 lm:Nat
 sm:Nat
 c:Cf
 sp:Option Nat
 sc:Nat
 ko:Nat
 kc:Nat
 K:List (List B8)
 T:List Snd
 so:Option Nat
 soc:Nat
 l:List FrO
 E:List SE
def Crw.tl (z:Crw):List Value:= [slO (some z.ko) z.K.length z.kc, .map (some z.lm),slO z.so z.l.length z.soc, .map (some z.sm)]
def Crw.cells (z:Crw):List Value:=z.c.cells (slO z.sp z.c.L.length z.sc)++z.tl
abbrev crwC (z:Crw):It:=cel z.b z.cells 93
abbrev crwM (z:Crw):It:=mapI z.lm goodI (cS z.T)
abbrev crwS (z:Crw):It:=mapI z.sm hdG (encS z.E)
abbrev crwL (z:Crw):It:=own z.so z.soc 78 21 z.l.length (z.l.flatMap FrO.cells)
abbrev crwR (z:Crw):It:=own z.sp z.sc 122 48 z.c.L.length (z.c.L.flatMap Sr.cells)
abbrev crwK (z:Crw):It:=own (some z.ko) z.kc 31 32 z.K.length (flatK z.K)
abbrev crwT (z:Crw):It:=PK.allI (z.T.map sndI)
abbrev crwE (z:Crw):It:=PK.allI (z.E.map SE.it)
abbrev crwB (z:Crw):It:=PK.allI (z.l.map bodyO)
abbrev CrwL (z:Crw):List It:= [crwC z,crwM z,crwS z,crwL z,crwR z,crwK z,crwT z,crwE z,crwB z]
abbrev crwI (z:Crw):It:=PK.allI (CrwL z)
structure Crw.Ok (z:Crw):Prop where
 cm:z.c.cm.length=32
 L:∀s∈z.c.L,s.Fit∧0≤s.id∧s.id≤7
 n:z.c.L.length≤12
 K:∀k∈z.K,k.length=32
 K1:1≤z.K.length∧z.K.length≤513
 T:∀x∈z.T,x.s∈z.c.L∧x.ep < 4294967296∧x.ct < 18446744073709551616
 Tn:(z.T.map fun x=> x.s.id).Nodup
 l:∀x∈z.l,x.f.Fit
 ll:z.l.length≤1000
 E:SOk z.E z.l
theorem Fr.Fit.num {f:Fr} (h:f.Fit):f.Num:=by
 have h1:=h.kd
 have h2:=h.sr
 refine ⟨h.ok, ?_, ?_⟩ <;> (simp only [wfk,Lit.wf,IntKind.min,IntKind.max,IntKind.signed,IntKind.bits,Bool.and_eq_true,decide_eq_true_eq,if_true];omega)
theorem crw_len {z:Crw} (h:z.c.cm.length=32):z.cells.length=49:=by rw [Crw.cells,List.length_append,cf_len h,Crw.tl];rfl
theorem crw_t {z:Crw} (h:z.c.cm.length=32) (j:Nat):z.cells[0+45+j]? =z.tl[j]? :=by
 rw [Crw.cells,show 0+45+j=(z.c.cells (slO z.sp z.c.L.length z.sc)).length+j by rw [cf_len h],List.getElem?_append_right zb,Nat.add_sub_cancel_left]
theorem crw_k {z:Crw} (h:z.c.cm.length=32):z.cells[0+45]? =some (slO (some z.ko) z.K.length z.kc):=crw_t h 0
theorem crw_m {z:Crw} (h:z.c.cm.length=32):z.cells[0+46]? =some (.map (some z.lm)):=crw_t h 1
theorem crw_s {z:Crw} (h:z.c.cm.length=32):z.cells[0+47]? =some (slO z.so z.l.length z.soc):=crw_t h 2
theorem crw_d {z:Crw} (h:z.c.cm.length=32):z.cells[0+48]? =some (.map (some z.sm)):=crw_t h 3
theorem crw_c {z:Crw} (h:z.c.cm.length=32):∀(j:Nat) (u:Value),(z.c.cells (slO z.sp z.c.L.length z.sc))[j]? =some u→z.cells[0+j]? =some u:=fun j u hj=> by
 rw [Crw.cells,Nat.zero_add,List.getElem?_append_left (List.getElem?_eq_some_iff.1 hj).1];exact hj
theorem snd_len {x:Snd} (h:x.s.rt.length=32):x.cells.length=50:=by rw [Snd.cells,List.length_append,sr_len h];rfl
theorem snd_t {x:Snd} (h:x.s.rt.length=32) (j:Nat):x.cells[0+48+j]? = [Value.int .u32 (x.ep:Int), .int .u64 (x.ct:Int)][j]? :=by
 rw [Snd.cells,show 0+48+j=x.s.cells.length+j by rw [sr_len h],List.getElem?_append_right zb,Nat.add_sub_cancel_left]
theorem set_ct {x:Snd} (h:x.s.rt.length=32) (n:Nat):spl x.cells (0+49) [.int .u64 (n:Int)]=Snd.cells ⟨x.s,x.ep,n,x.b⟩:=by
 have hs:=sr_len h
 have e:∀n:Nat,Snd.cells ⟨x.s,x.ep,n,x.b⟩=(x.s.cells++ [.int .u32 (x.ep:Int)])++([.int .u64 (n:Int)]++ []):=fun n=> by simp [Snd.cells]
 rw [show x.cells=Snd.cells ⟨x.s,x.ep,x.ct,x.b⟩ from rfl,e,e];exact seg_spl (by simp [hs]) zm
theorem set_ep {x:Snd} (h:x.s.rt.length=32) (n:Nat):spl x.cells (0+48) [.int .u32 (n:Int)]=Snd.cells ⟨x.s,n,x.ct,x.b⟩:=by
 have hs:=sr_len h
 have e:∀n:Nat,Snd.cells ⟨x.s,n,x.ct,x.b⟩=x.s.cells++([.int .u32 (n:Int)]++ [.int .u64 (x.ct:Int)]):=fun n=> by simp [Snd.cells]
 rw [show x.cells=Snd.cells ⟨x.s,x.ep,x.ct,x.b⟩ from rfl,e,e];exact seg_spl (by simp [hs]) zm
theorem look_T (n:Int):∀T:List Snd,lookV (.int .i64 n) (cS T)=(atT T n).map fun x=> .pointer (some ⟨x.b,0,none⟩)
 | []=> rfl
 | x::T=> by
  have ih:=look_T n T
  simp only [cS] at ih
  by_cases h:n=x.s.id
  ·simp [cS,lookV,atT,h]
  ·simp only [cS,List.map_cons,lookV,atT,List.find?_cons,h,decide_false,Value.int.injEq,and_false,if_false,ih]
def findV (T:List Snd) (n:Int):Value:=match atT T n with
 | some x=> .tuple #[.pointer (some ⟨x.b,0,none⟩), .int .i64 0]
 | none=> .tuple #[.pointer none, .int .i64 5]
theorem eis_any (z:Crw) (h:z.c.cm.length=32):Spc prog 50 #[.pointer (some ⟨z.b,0,none⟩)] [crwC z] [] (Is (.bool true)):=by
 have f46:RdI [crwC z] ⟨z.b,0+46,none⟩ (.map (some z.lm)):=⟨fun _=> Rd.getI mQ (crw_m h)⟩
 refine Spc.en func50 rfl rfl (fun w0 hw0=> ?_)
 refine CW.sr (RL.pn rfl (CW.sr (RL.p rfl (RL.cmp rfl (neq_ptr runUnderlying36 _) (RL.p rfl ?_)))))
 apply RL.andB (d:=5) (dp:=11) (l':=(Sq.of [9])) rfl (sK [2] rfl)
 ·
  intro hb3 K3
  refine RL.q rfl (RL.fa fa_93_2 rfl (RL.lq isAgg90 rfl ?_))
  refine RL.cmp rfl (neq_map runUnderlying90 _) (RL.p rfl ?_)
  exact K3 _ (.cons rfl (sK [2] rfl))
 ·
  intro hb3 K3
  refine RL.q rfl (RL.q rfl (RL.q rfl ?_))
  exact K3 _ (.cons rfl (sK [2] rfl))
 refine RL.pn rfl (CW.rr ?_)
 exact RQ.pp (res1 rfl rfl) (Split.nn _) ⟨rfl,rfl,rfl⟩
theorem efind_any (z:Crw) (h:z.c.cm.length=32) (n:Int):Spc prog 56 #[.pointer (some ⟨z.b,0,none⟩), .int .i64 n] [crwC z,crwM z] [] (Is (findV z.T n)):=by
 have f46:RdI [crwC z,crwM z] ⟨z.b,0+46,none⟩ (.map (some z.lm)):=⟨fun _=> Rd.getI mQ (crw_m h)⟩
 refine Spc.en func56 rfl rfl (fun w0 hw0=> ?_)
 refine CW.s1 rfl (CW.ss (CW.sr (RL.p rfl (RL.vv (eis_any z h) call50 rfl (.inI mQ .nil) ?_))))
 refine RL.pn rfl (CW.cF rfl (rfl) (CW.sn (CW.sr (RL.q rfl (RL.fa fa_93_2 rfl (RL.lq isAgg90 rfl ?_))))))
 refine RL.p rfl (RL.lookup keyI runUnderlying90 zeroValue123 rfl ⟨n,rfl⟩ (MapAt.told mQ) ?_)
 refine RL.tt (d:=15) (v':= .pointer ((atT z.T n).map fun x=> ⟨x.b,0,none⟩)) rfl (by rw [look_T];cases atT z.T n <;> rfl) ?_
 refine RL.pn rfl (CW.ok [6] rfl (CW.ss (CW.sr (RL.p rfl (RL.cmp rfl (eql_ptr runUnderlying123 _) (RL.ns ?_))))))
 rw [findV]
 cases atT z.T n with
 | none=>
  refine CW.cT rfl (rfl) (CW.s1 rfl (CW.rr (RQ.ss ?_)))
  exact RQ.pp (res2 rfl rfl rfl) (Split.nn _) ⟨rfl,rfl,rfl⟩
 | some x=>
  refine CW.cF rfl (rfl) (CW.sn (CW.sr (RL.p rfl (RL.qn rfl (CW.rr ?_)))))
  exact RQ.pp (res2 rfl rfl rfl) (Split.nn _) ⟨rfl,rfl,rfl⟩
section
variable {P : Program} {Q : Exit → Act → World → Prop} {N : Nat} {E : Env} {w0 : World} {S : List Nat} {I H l m B : List It} {cc : Code} {x : It}
theorem Cls.pushA {w:World} (hp:m.Perm (x::l)) (h:Cls w0 S I (x::PK.allI l::B) w):Cls w0 S I (PK.allI m::B) w:=
 ((h.perm (List.Perm.swap _ _ _)).unpack.perm (List.perm_middle.trans (hp.symm.append_right B))).pack
theorem Cls.pullA {w:World} (hp:m.Perm (x::l)) (h:Cls w0 S I (PK.allI m::B) w):Cls w0 S I (x::PK.allI l::B) w:=
 ((h.unpack.perm ((hp.append_right B).trans List.perm_middle.symm)).pack).perm (List.Perm.swap _ _ _)
theorem CW.pullA (hp:m.Perm (x::l)) (h:CW P cc Q N E w0 S I (x::PK.allI l::B)):CW P cc Q N E w0 S I (PK.allI m::B):=fun a w ha hw=> h a w ha (Cls.pullA hp hw)
theorem RQ.pushA (hp:m.Perm (x::l)) (h:RQ Q N E w0 S I (PK.allI m::B)):RQ Q N E w0 S I (x::PK.allI l::B):=fun a w ha hw=> h a w ha (Cls.pushA hp hw)
theorem RQ.crw {z:Crw} (hr:Rea H (CrwL z++B)) (h:RQ Q N E w0 S I (crwI z::B)):RQ Q N E w0 S I H:=RQ.rea (fun _ h=> h) hr (RQ.pack h)
end
theorem setV_twice {k u v:Value}:∀c:List (Value×Value),setV k u (setV k v c)=setV k u c
 | []=> by simp [setV]
 | (a,w)::c=> by
  by_cases h:k=a
  ·subst h;simp [setV]
  ·simp [setV,h,setV_twice c]
structure SaidAt (E:List SE) (l:List FrO) (x:Fr) (e:SE) (R:List SE) (F:SE→List SE):Prop where
 look:(lookV (hdV x) (encS E)).getD (.slice none 0 0)=e.v
 set:∀v:SE,v.f=e.f→setV (hdV x) v.v (encS E)=encS (F v)
 perm:∀v:SE,(F v).Perm (v::R)
 ok:∀(v:SE) (y:FrO),y.f=x→v.f=e.f→v.l=e.l++ [y]→SOk (F v) (l++ [y])
 n:e.l.length≤l.length
theorem CW.saidOpen {P:Program} {Q:Exit→Act→World→Prop} {N:Nat} {Ev:Env} {w0:World} {S:List Nat} {I B:List It} {cc:Code} {E:List SE} {l:List FrO} {x:Fr} (h:SOk E l) (hx:x.Num)
  (k:∀(e:SE) (R:List SE) (F:SE→List SE),SaidAt E l x e R F→CW P cc Q N Ev w0 S I (SE.it e::PK.allI (R.map SE.it)::B)):CW P cc Q N Ev w0 S I (PK.allI (E.map SE.it)::B):=by
 cases ha:atS E x with
 | none=>
  refine fun a w ha' hw=> k ⟨x,none,0, []⟩ E (fun v=> E++ [v]) ⟨?_,fun v hv=> set_S_new hv ha,fun v=> ?_,fun v y hy hv hl=> ?_,Nat.zero_le _⟩ a w ha' (Cls.ownNone hw)
  ·rw [look_S,ha];rfl
  ·exact (List.perm_append_comm (l₁:=E) (l₂:= [v]))
  ·exact h.miss (by rw [hy];exact ha) (by rw [hv,hy]) (by rw [hl];rfl) (by rw [hy];exact hx)
 | some e=>
  obtain ⟨h1,A,B',rfl,h2⟩:=atS_split ha
  refine CW.pullA (x:=SE.it e) (l:=(A++B').map SE.it) ?_ (k e (A++B') (fun v=> A++v::B') ⟨?_,fun v hv=> set_S_old h1 hv h2,fun v=> List.perm_middle,fun v y hy hv hl=> ?_, ?_⟩)
  ·rw [show SE.it e::(A++B').map SE.it=(e::(A++B')).map SE.it from rfl]
   exact List.perm_middle.map _
  ·rw [look_S,ha];rfl
  ·exact h.hit (by rw [hy];exact h2) (by rw [hy];exact h1) hv hl
  ·have h0:=h.b x
   rw [bodS,ha] at h0
   show e.l.length≤l.length
   rw [show e.l=_ from h0]
   exact List.length_filter_le _ _
def Crw.put (z:Crw) (x:FrO) (so:Option Nat) (soc:Nat) (E:List SE):Crw:=⟨z.b,z.lm,z.sm,z.c,z.sp,z.sc,z.ko,z.kc,z.K,z.T,so,soc,z.l++ [x],E⟩
theorem crw_put {z:Crw} (h:z.c.cm.length=32) (x:FrO) (so:Option Nat) (soc:Nat) (E:List SE):spl z.cells (0+47) [slO so (z.l.length+1) soc]=(z.put x so soc E).cells:=by
 have hs:=cf_len h (slO z.sp z.c.L.length z.sc)
 rw [Crw.cells,Crw.tl,show z.c.cells (slO z.sp z.c.L.length z.sc)++ [slO (some z.ko) z.K.length z.kc, .map (some z.lm),slO z.so z.l.length z.soc, .map (some z.sm)]=(z.c.cells (slO z.sp z.c.L.length z.sc)++ [slO (some z.ko) z.K.length z.kc, .map (some z.lm)])++([slO z.so z.l.length z.soc]++ [.map (some z.sm)]) by simp,seg_spl (by simp [hs]) zm]
 simp [Crw.cells,Crw.tl,Crw.put]
def PutF (z:Crw) (x:FrO):Value→List It→List It→Prop:=fun v I' H'=> ∃rb rc so soc E',v= .tuple #[slO rb (frB x.f).length rc, .int .i64 0]∧I'= []∧H'= [crwI (z.put x so soc E'),own rb rc 5 1 (frB x.f).length (bytes (frB x.f))]∧SOk E' (z.l++ [x])
theorem fill_hd (f:Fr) (h:f.tag.length=16) {places:Array (Nat×Nat)} (hp:places= #[(0,1),(1,1),(2,1),(3,1),(4,16)]):
  fillL (places[·]?) (hdC fr0) [(0, .int .i64 f.kd),(1, .int .i64 f.sr),(2, .int .u32 (f.ep:Int)),(3, .int .u64 (f.ct:Int)),(4, .agg (bytes f.tag).toArray)]=some (hdC f):=by
 subst hp
 refine fill_seg (vs:= [.int .i64 f.kd]) [] [.int .i64 0] (.int .i64 0:: .int .u32 0:: .int .u64 0::bytes (List.replicate 16 0#8)) rfl rfl rfl rfl rfl rfl ?_
 refine fill_seg (vs:= [.int .i64 f.sr]) [.int .i64 f.kd] [.int .i64 0] (.int .u32 0:: .int .u64 0::bytes (List.replicate 16 0#8)) rfl rfl rfl rfl rfl rfl ?_
 refine fill_seg (vs:= [.int .u32 (f.ep:Int)]) [.int .i64 f.kd, .int .i64 f.sr] [.int .u32 0] (.int .u64 0::bytes (List.replicate 16 0#8)) rfl rfl rfl rfl rfl rfl ?_
 refine fill_seg (vs:= [.int .u64 (f.ct:Int)]) [.int .i64 f.kd, .int .i64 f.sr, .int .u32 (f.ep:Int)] [.int .u64 0] (bytes (List.replicate 16 0#8)) rfl rfl rfl rfl rfl rfl ?_
 refine fill_seg (vs:=bytes f.tag) [.int .i64 f.kd, .int .i64 f.sr, .int .u32 (f.ep:Int), .int .u64 (f.ct:Int)] (bytes (List.replicate 16 0#8)) [] rfl (agg_cells _) rfl rfl rfl (by simp [h]) ?_
 simp [fillL,hdC]
theorem hd_len {f:Fr} (h:f.tag.length=16):(hdC f).length=20:=by simp [hdC,h]
theorem ones_hd (f:Fr):ones (hdC f)=true:=ones_map one8 f.tag
theorem head_any (f:Fr) (sl:Value) (hf:f.tag.length=16) (hs:sl.oneCell'=true):Spc prog 65 #[.agg (f.cells sl).toArray] [] [] (Is (hdV f)):=by
 have hl:=fr_len hf sl
 have htl:(bytes f.tag).length=16*1:=by rw [List.length_map,hf]
 refine Spc.en func65 rfl rfl (fun w0 hw0=> ?_)
 refine CW.sg [0,1] [] (RL.box rfl ?_)
 intro b1
 refine RL.al zeroValue163 rfl ?_
 intro b2
 refine RL.ns (CW.ss (CW.fP (A:= [cel b1 (f.cells sl) 78]) (B:= [cel b2 (hdC fr0) 163]) pE rfl ?_))
 refine CW.gI (fun J hJ=> ?_)
 have m1:cel b1 (f.cells sl) 78∈J:=hJ _ (List.Mem.head _)
 clear hJ
 have f0:RdI J ⟨b1,0+0,none⟩ (.int .i64 f.kd):=⟨fun _=> Rd.celI m1 rfl⟩
 have f1:RdI J ⟨b1,0+1,none⟩ (.int .i64 f.sr):=⟨fun _=> Rd.celI m1 rfl⟩
 have f2:RdI J ⟨b1,0+2,none⟩ (.int .u32 (f.ep:Int)):=⟨fun _=> Rd.celI m1 rfl⟩
 have f3:RdI J ⟨b1,0+3,none⟩ (.int .u64 (f.ct:Int)):=⟨fun _=> Rd.celI m1 rfl⟩
 have f5:RdsN J ⟨b1,0+5,none⟩ 16 (bytes f.tag):=RdsN.told m1 (fr_tag f sl) (by rw [List.length_map,hf])
 refine CW.rn (ef:= [11]) (bk:= [11]) (RL.fa fa_78_0 rfl (RL.lq isAgg3 rfl ?_))
 refine RL.fa fa_78_1 rfl (RL.lq isAgg3 rfl ?_)
 refine RL.fa fa_78_2 rfl (RL.lq isAgg61 rfl ?_)
 refine RL.fa fa_78_3 rfl (RL.lq isAgg32 rfl ?_)
 refine RL.fa fa_78_5 rfl (RL.lS isAgg76 sizeOf76 rfl ?_)
 refine RL.bS (hdC f) zeroValue163 pl_163 (qP rfl (qP rfl (fill_hd f hf rfl))) (RL.sW sizeOf163 rfl (ones_hd f) uE (hd_len hf) rfl ?_)
 refine RL.ns (CW.ok [2] rfl (CW.rr ?_))
 exact RQ.pp (resW rfl rfl isAgg163 sizeOf163 mQ (hd_len hf)) (Split.nn _) ⟨rfl,rfl,rfl⟩
theorem put_flat (l:List FrO) (x:FrO):l.flatMap FrO.cells++x.cells=(l++ [x]).flatMap FrO.cells:=by simp
theorem eput_any (z:Crw) (x:FrO) (hz:z.c.cm.length=32) (hll:z.l.length≤1000) (hE:SOk z.E z.l) (hx:x.f.Fit):Spc prog 61 #[.pointer (some ⟨z.b,0,none⟩),frV x] [] [crwI z,bodyO x] (PutF z x):=by
 have h21:=fr_len hx.ok.tag x.sl
 have hbl:=hx.b
 refine Spc.en func61 rfl rfl (fun w0 hw0=> ?_)
 refine CW.sg [0] [] (RL.box rfl ?_)
 intro b1
 refine RL.qn rfl (CW.ss (CW.fP (A:= [cel b1 x.cells 78]) (B:= [crwI z,bodyO x]) pE rfl ?_))
 refine CW.gI (fun J hJ=> ?_)
 have m1:cel b1 x.cells 78∈J:=hJ _ (List.Mem.head _)
 clear hJ
 have f4:RdI J ⟨b1,0+4,none⟩ x.sl:=⟨fun _=> Rd.celI m1 rfl⟩
 have fA:RdsN J ⟨b1,0,none⟩ 21 x.cells:=⟨fun _=> Rds.allI m1,h21⟩
 refine CW.unpack (l:=CrwL z) (B:= [bodyO x]) (CW.perm (List.Perm.refl [crwC z,crwM z,crwS z,crwL z,crwR z,crwK z,crwT z,crwE z,crwB z,bodyO x]) (CW.rn (ef:= [1]) (bk:= []) (RL.lS isAgg78 sizeOf78 rfl ?_)))
 refine RL.cc (fput_any x.f (x.ob.map fun b=> ⟨b,0,none⟩) x.cp _ hx rfl) call109 rfl pE (Lend.own mQ .nil) (.inl rfl) ?_
 rintro _ _ _ ⟨rb,rc,rfl,rfl,rfl⟩
 refine RL.q rfl (RL.p rfl (RL.qn rfl (CW.ok [0,3,6,7] rfl (CW.ss ?_))))
 refine CW.cutG (γ:=Option Nat×Nat) (fun _=> True) (fun _=> [(0, .pointer (some ⟨z.b,0,none⟩)),(3, .pointer (some ⟨b1,0,none⟩)),(6,slO rb (frB x.f).length rc),(7, .int .i64 0)]) (fun _=> J) (fun g=> [cel z.b (z.put x g.1 g.2 z.E).cells 93,own g.1 g.2 78 21 (z.l.length+1) ((z.l++ [x]).flatMap FrO.cells),own rb rc 5 1 (frB x.f).length (bytes (frB x.f)),crwM z,crwS z,crwR z,crwK z,crwT z,crwE z,crwB z,bodyO x]) ?_ ?_
 ·
  refine CW.rD (Sq.of (rg 0 10)) [6,7,10] [7,10] [0,1,2,3,5,8,9] mixed zi ?_
  refine RL.q rfl (RL.p rfl (RL.fa fa_93_3 rfl (RL.load isAgg72 rfl (Rd.get mQ (crw_s hz)) ?_)))
  refine RL.loadSTq isAgg78 sizeOf78 rfl ?_
  refine RL.buildSlice x.cells runUnderlying72 sizeOf78 zeroValue78 rfl rfl zc zc rfl (fill_one21 h21 rfl) ?_
  intro b2
  refine RL.appendA el_72 rfl za (Src.cel mQ h21) (fun u hu=> ones_spec (ones_fro x) u hu) zd zd ?_
  intro ob1 cap1 ho1
  refine RL.p rfl (RL.fa fa_93_3 rfl (RL.sX (vs:= [_]) (crw_put hz x _ _ z.E) sizeOf72 rfl rfl uE (by rw [crw_len hz];show 0+47+1≤49;decide) ?_))
  refine RL.ee ?_
  exact NQ.gg (ob1,cap1) trivial sE (fun w h=> by rw [put_flat] at h;exact h.rea (fun _ h=> h) rE)
 rintro ⟨so,soc⟩ -
 dsimp only
 refine CW.sg [1,2,3] [3] (RL.lS isAgg78 sizeOf78 rfl ?_)
 refine RL.vq (head_any x.f x.sl hx.ok.tag rfl) call65 rfl ?_
 refine RL.al zeroValue163 rfl ?_
 intro b2
 refine RL.sW sizeOf163 rfl (ones_hd x.f) uE (hd_len hx.ok.tag) rfl ?_
 refine RL.ns (CW.ss (CW.fP (A:= [cel b2 (hdC x.f) 163]) (B:= [cel z.b (z.put x so soc z.E).cells 93,own so soc 78 21 (z.l.length+1) ((z.l++ [x]).flatMap FrO.cells),own rb rc 5 1 (frB x.f).length (bytes (frB x.f)),crwM z,crwS z,crwR z,crwK z,crwT z,crwE z,crwB z,bodyO x]) pE rfl ?_))
 refine CW.gI (fun J2 hJ2=> ?_)
 have m2:cel b2 (hdC x.f) 163∈J2:=hJ2 _ (List.Mem.head _)
 have m1:cel b1 x.cells 78∈J2:=hJ2 _ (List.Mem.tail _ m1)
 clear hJ2 f4 fA
 have f4:RdI J2 ⟨b1,0+4,none⟩ x.sl:=⟨fun _=> Rd.celI m1 rfl⟩
 have fH:RdsN J2 ⟨b2,0,none⟩ 20 (hdC x.f):=⟨fun _=> Rds.allI m2,hd_len hx.ok.tag⟩
 refine CW.rea (fun _ h=> h) (H':= [crwE z,crwS z,cel z.b (z.put x so soc z.E).cells 93,own so soc 78 21 (z.l.length+1) ((z.l++ [x]).flatMap FrO.cells),own rb rc 5 1 (frB x.f).length (bytes (frB x.f)),crwM z,crwR z,crwK z,crwT z,crwB z,bodyO x]) rE ?_
 refine CW.saidOpen (x:=x.f) hE hx.num (fun e R F sa=> ?_)
 refine CW.cutG (γ:=Option Nat×Nat) (fun _=> True) (fun _=> [(6,slO rb (frB x.f).length rc),(7, .int .i64 0)]) (fun _=> J2) (fun g=> [SE.it ⟨e.f,g.1,g.2,e.l++ [x]⟩,PK.allI (R.map SE.it),mapI z.sm hdG (encS (F ⟨e.f,g.1,g.2,e.l++ [x]⟩)),cel z.b (z.put x so soc z.E).cells 93,own so soc 78 21 (z.l.length+1) ((z.l++ [x]).flatMap FrO.cells),own rb rc 5 1 (frB x.f).length (bytes (frB x.f)),crwM z,crwR z,crwK z,crwT z,crwB z,bodyO x]) ?_ ?_
 ·
  have hn:=sa.n
  refine CW.rD (Sq.of (rg 0 9++[11,10,12])) [7,8,10,12] [8,10,12] [0,1,2,4,5,6,9,11] mixed zi ?_
  refine RL.q rfl (RL.fa fa_93_4 rfl (RL.load isAgg91 rfl (Rd.get mQ (crw_d (z:=z.put x so soc z.E) hz)) ?_))
  refine RL.loadSTq isAgg163 sizeOf163 rfl ?_
  refine RL.fa fa_78_4 rfl (RL.lT isAgg74 rfl ?_)
  refine RL.buildSlice [_] runUnderlying161 sizeOf74 zeroValue74 rfl rfl zc zc rfl rfl ?_
  intro b3
  refine RL.mapEntry (key:=hdV x.f) keyHd runUnderlying91 zeroValue161 rfl (hdV_good hx.num) mQ (fun st=> ⟨_,uE, ?_⟩)
  rw [sa.look]
  refine RL.q rfl (RL.appendA el_161 rfl za (Src.cel (cs:= [x.sl]) mQ rfl) (fun u hu=> by rw [List.mem_singleton.1 hu];rfl) zd zd ?_)
  intro ob1 cap1 ho1
  refine RL.entryStore rfl uE ?_
  refine RL.ee ?_
  have hv:slO ob1 (e.l.length+1) cap1=(⟨e.f,ob1,cap1,e.l++ [x]⟩:SE).v:=by simp [SE.v]
  exact NQ.gg (ob1,cap1) trivial sE (fun w h=> by
   rw [setV_twice,hv,sa.set ⟨e.f,ob1,cap1,e.l++ [x]⟩ rfl,own_is (n':=(e.l++ [x]).length) (xs':=(e.l++ [x]).map FrO.sl) zm zm] at h
   exact h.rea (fun _ h=> h) rE)
 rintro ⟨eo,ec⟩ -
 dsimp only
 refine CW.sr (RL.q rfl (RL.qn rfl (CW.rr ?_)))
 have hp:=(sa.perm ⟨e.f,eo,ec,e.l++ [x]⟩).map SE.it
 have hok:=sa.ok ⟨e.f,eo,ec,e.l++ [x]⟩ x rfl rfl rfl
 generalize F ⟨e.f,eo,ec,e.l++ [x]⟩=E' at hp hok
 refine RQ.pushA (m:=E'.map SE.it) hp (RQ.rea (fun _ h=> h) (H':= [bodyO x,crwB z,PK.allI (E'.map SE.it),mapI z.sm hdG (encS E'),cel z.b (z.put x so soc z.E).cells 93,own so soc 78 21 (z.l.length+1) ((z.l++ [x]).flatMap FrO.cells),own rb rc 5 1 (frB x.f).length (bytes (frB x.f)),crwM z,crwR z,crwK z,crwT z]) rE ?_)
 refine RQ.pushA (m:=(z.l++ [x]).map bodyO) (by rw [List.map_append];exact List.perm_append_comm) ?_
 rw [own_is (n':=(z.l++ [x]).length) zm rfl]
 refine RQ.crw (z:=z.put x so soc E') (B:= [own rb rc 5 1 (frB x.f).length (bytes (frB x.f))]) rE ?_
 exact RQ.pp (res2 rfl rfl rfl) (.keep (.keep .nil)) ⟨rb,rc,so,soc,E',rfl,rfl,rfl,hok⟩
theorem sizeR_37 (k:Int):sizeR k≤37:=by
 unfold sizeR
 by_cases h1:k=1
 ·rw [if_pos h1];decide
 rw [if_neg h1]
 by_cases h1:k=2
 ·rw [if_pos h1];decide
 rw [if_neg h1]
 by_cases h1:k=3
 ·rw [if_pos h1];decide
 rw [if_neg h1]
 by_cases h1:k=4
 ·rw [if_pos h1];decide
 rw [if_neg h1]
 by_cases h1:k=5
 ·rw [if_pos h1];decide
 rw [if_neg h1]
 by_cases h1:k=6
 ·rw [if_pos h1];decide
 rw [if_neg h1]
 split <;> (try split) <;> (try split) <;> (try split) <;> (try split) <;> (try split) <;> (try split) <;> omega
theorem putB_len48 (r:Rdg):(putB r).length≤48:=by
 by_cases h:okP r
 ·rw [(put_yes h).1]
  obtain ⟨x,hx, -⟩:=h
  unfold gotR at hx
  split at hx
  ·next h=> rw [h.2.2.1];have:=sizeR_37 r.kind;omega
  ·cases hx
 ·rw [(put_no h).1];decide
theorem Rds.lie {I H:List It} {x:It} {b off:Nat} {cs vs:List Value} {T:TypeId} (hm:x∈H) (hl:Lies x (cel b cs T)) (hv:∀j u,vs[j]? =some u→cs[off+j]? =some u):Rds I H ⟨b,off,none⟩ vs:=fun w hw=> by
 have h0:=hl.A w (hw.h _ hm)
 have hs:Sat [] [cel b cs T] w:=⟨zm,by simpa using h0,by simp [PK.cel],zm⟩
 exact Rds.cel (I:= []) (List.Mem.head _) hv w hs
theorem Rd.lie {I H:List It} {x:It} {b off:Nat} {cs:List Value} {v:Value} {T:TypeId} (hm:x∈H) (hl:Lies x (cel b cs T)) (hv:cs[off]? =some v):Rd I H ⟨b,off,none⟩ v:=fun w hw=> by
 have h0:=hl.A w (hw.h _ hm)
 have hs:Sat [] [cel b cs T] w:=⟨zm,by simpa using h0,by simp [PK.cel],zm⟩
 exact Rd.get (I:= []) (List.Mem.head _) hv w hs
def Snd.set (x:Snd) (ep ct:Nat):Snd:=⟨x.s,ep,ct,x.b⟩
def Crw.setT (z:Crw) (T:List Snd):Crw:=⟨z.b,z.lm,z.sm,z.c,z.sp,z.sc,z.ko,z.kc,z.K,T,z.so,z.soc,z.l,z.E⟩
theorem cS_mid {A B:List Snd} {x:Snd} (ep ct:Nat):cS (A++x.set ep ct::B)=cS (A++x::B):=by simp [cS,Snd.set]
theorem snd_perm (A B:List Snd) (x:Snd):((A++x::B).map sndI).Perm (sndI x::(A++B).map sndI):=(List.perm_middle (l₁:=A) (l₂:=B) (a:=x)).map sndI
abbrev CrwS (z:Crw) (A B:List Snd) (y:Snd):List It:= [sndI y,PK.allI ((A++B).map sndI),crwC z,crwM z,crwS z,crwL z,crwR z,crwK z,crwE z,crwB z]
section
variable {P : Program} {Q : Exit → Act → World → Prop} {N : Nat} {E : Env} {w0 : World} {S : List Nat} {I H C : List It} {cc : Code}
theorem Rea.same:∀H:List It,Rea H H
 | []=> .nil
 | _::H=> .cons .here (Rea.same H)
theorem Cls.sndOpen {z:Crw} {A B:List Snd} {x:Snd} {w:World} (hT:z.T=A++x::B) (h:Cls w0 S I (crwI z::C) w):Cls w0 S I (CrwS z A B x++C) w:=by
 have h1:=(Cls.unpack h).rea (I':=I) (H':=crwT z:: [crwC z,crwM z,crwS z,crwL z,crwR z,crwK z,crwE z,crwB z]++C) (fun _ h=> h) (.cons (.there (.there (.there (.there (.there (.there .here)))))) (Rea.same _))
 exact Cls.pullA (m:=z.T.map sndI) (by rw [hT];exact snd_perm A B x) h1
theorem Cls.sndClose {z:Crw} {A B:List Snd} {x:Snd} {ep ct:Nat} {w:World} (hT:z.T=A++x::B) (h:Cls w0 S I (CrwS z A B (x.set ep ct)++C) w):Cls w0 S I (crwI (z.setT (A++x.set ep ct::B))::C) w:=by
 have h1:=Cls.pushA (m:=(A++x.set ep ct::B).map sndI) (snd_perm A B (x.set ep ct)) h
 have h2:=h1.rea (I':=I) (H':= [crwC z,crwM z,crwS z,crwL z,crwR z,crwK z,PK.allI ((A++x.set ep ct::B).map sndI),crwE z,crwB z]++C) (fun _ h=> h) (.cons (.there .here) (.cons (.there .here) (.cons (.there .here) (.cons (.there .here) (.cons (.there .here) (.cons (.there .here) (.cons .here (Rea.same _))))))))
 refine Cls.pack (l:=CrwL (z.setT (A++x.set ep ct::B))) ?_
 have hM:crwM (z.setT (A++x.set ep ct::B))=crwM z:=by
  show mapI z.lm goodI (cS (A++x.set ep ct::B))=mapI z.lm goodI (cS z.T)
  rw [cS_mid,hT]
 show Cls w0 S I ([crwC (z.setT (A++x.set ep ct::B)),crwM (z.setT (A++x.set ep ct::B)),crwS (z.setT (A++x.set ep ct::B)),crwL (z.setT (A++x.set ep ct::B)),crwR (z.setT (A++x.set ep ct::B)),crwK (z.setT (A++x.set ep ct::B)),crwT (z.setT (A++x.set ep ct::B)),crwE (z.setT (A++x.set ep ct::B)),crwB (z.setT (A++x.set ep ct::B))]++C) w
 rw [hM]
 exact h2
theorem CW.sndOpen {z:Crw} {A B:List Snd} {x:Snd} (hT:z.T=A++x::B) (h:CW P cc Q N E w0 S I (CrwS z A B x++C)):CW P cc Q N E w0 S I (crwI z::C):=fun a w ha hw=> h a w ha (Cls.sndOpen hT hw)
theorem CW.sndClose {z:Crw} {A B:List Snd} {x:Snd} {ep ct:Nat} (hT:z.T=A++x::B) (hr:Rea H (CrwS z A B (x.set ep ct)++C)) (h:CW P cc Q N E w0 S I (crwI (z.setT (A++x.set ep ct::B))::C)):CW P cc Q N E w0 S I H:=fun a w ha hw=> h a w ha (Cls.sndClose hT (hw.rea (fun _ h=> h) hr))
theorem RQ.sndClose {z:Crw} {A B:List Snd} {x:Snd} {ep ct:Nat} (hT:z.T=A++x::B) (hr:Rea H (CrwS z A B (x.set ep ct)++C)) (h:RQ Q N E w0 S I (crwI (z.setT (A++x.set ep ct::B))::C)):RQ Q N E w0 S I H:=fun a w ha hw=> h a w ha (Cls.sndClose hT (hw.rea (fun _ h=> h) hr))
theorem Cls.sndBack {z:Crw} {A B:List Snd} {x:Snd} {w:World} (hT:z.T=A++x::B) (h:Cls w0 S I (CrwS z A B x++C) w):Cls w0 S I (crwI z::C) w:=by
 have h1:=Cls.pushA (m:=z.T.map sndI) (by rw [hT];exact snd_perm A B x) h
 exact Cls.pack (h1.rea (I':=I) (H':=CrwL z++C) (fun _ h=> h) (.cons (.there .here) (.cons (.there .here) (.cons (.there .here) (.cons (.there .here) (.cons (.there .here) (.cons (.there .here) (.cons .here (Rea.same _)))))))))
theorem RQ.sndBack {z:Crw} {A B:List Snd} {x:Snd} (hT:z.T=A++x::B) (hr:Rea H (CrwS z A B x++C)) (h:RQ Q N E w0 S I (crwI z::C)):RQ Q N E w0 S I H:=fun a w ha hw=> h a w ha (Cls.sndBack hT (hw.rea (fun _ h=> h) hr))
end
noncomputable def frS (x:Snd) (r:Rdg):Fr:=(⟨r.kind,x.s.id,x.ep,x.ct+1,putB r,List.replicate 16 0#8⟩:Fr).sign x.s.rt
noncomputable def sendE (x:Snd) (r:Rdg):Int:=if putE r=0∧(kindsL x.s.kd).contains r.kind=true then (if x.ct=18446744073709551615 then 3 else 0) else 120
def SendR (z:Crw) (A B:List Snd) (x:Snd) (r:Rdg):Value→List It→List It→Prop:=fun v I' H'=> I'= []∧((sendE x r≠0∧v= .tuple #[.slice none 0 0, .int .i64 (sendE x r)]∧H'= [crwI z])∨
 (sendE x r=0∧∃rb rc bo bc so soc E',v= .tuple #[slO rb (frB (frS x r)).length rc, .int .i64 0]∧H'= [crwI ((z.setT (A++x.set x.ep (x.ct+1)::B)).put ⟨frS x r,bo,bc⟩ so soc E'),own rb rc 5 1 (frB (frS x r)).length (bytes (frB (frS x r)))]∧SOk E' (z.l++ [⟨frS x r,bo,bc⟩])))
theorem frS_fit {x:Snd} {r:Rdg} (h1:0≤x.s.id∧x.s.id≤7) (h2:x.ep < 4294967296) (h3:x.ct < 18446744073709551616) (h:sendE x r=0):(frS x r).Fit:=by
 unfold sendE at h
 split at h
 ·next hk=>
  split at h
  ·cases h
  ·next hc=>
   have hr:0≤r.kind∧r.kind≤255:=by
    have:=hk.2
    rw [List.contains_iff_mem] at this
    unfold kindsL at this
    split at this
    ·simp at this;omega
    ·split at this
     ·simp at this;omega
     ·cases this
   have hb:=putB_len48 r
   exact ⟨⟨h2,by show x.ct+1 < 18446744073709551616;omega,macTag_len _ _⟩,hr,⟨h1.1,by show x.s.id≤255;omega⟩,hb⟩
 ·cases h
theorem fill_fr {kd sr ep ct:Int} {sl:Value} {places:Array (Nat×Nat)} (hs:sl.oneCell'=true) (hp:places= #[(0,1),(1,1),(2,1),(3,1),(4,1),(5,16)]):
  fillL (places[·]?) (fr0.cells (.slice none 0 0)) [(0, .int .i64 kd),(1, .int .i64 sr),(2, .int .u32 ep),(3, .int .u64 ct),(4,sl)]=some (.int .i64 kd:: .int .i64 sr:: .int .u32 ep:: .int .u64 ct::sl::bytes (List.replicate 16 0#8)):=by
 subst hp
 refine fill_seg (vs:= [.int .i64 kd]) [] [.int .i64 0] (.int .i64 0:: .int .u32 0:: .int .u64 0:: .slice none 0 0::bytes (List.replicate 16 0#8)) rfl rfl rfl rfl rfl rfl ?_
 refine fill_seg (vs:= [.int .i64 sr]) [.int .i64 kd] [.int .i64 0] (.int .u32 0:: .int .u64 0:: .slice none 0 0::bytes (List.replicate 16 0#8)) rfl rfl rfl rfl rfl rfl ?_
 refine fill_seg (vs:= [.int .u32 ep]) [.int .i64 kd, .int .i64 sr] [.int .u32 0] (.int .u64 0:: .slice none 0 0::bytes (List.replicate 16 0#8)) rfl rfl rfl rfl rfl rfl ?_
 refine fill_seg (vs:= [.int .u64 ct]) [.int .i64 kd, .int .i64 sr, .int .u32 ep] [.int .u64 0] (.slice none 0 0::bytes (List.replicate 16 0#8)) rfl rfl rfl rfl rfl rfl ?_
 refine fill_seg (vs:= [sl]) [.int .i64 kd, .int .i64 sr, .int .u32 ep, .int .u64 ct] [.slice none 0 0] (bytes (List.replicate 16 0#8)) rfl (by rw [cells_one hs]) rfl rfl rfl rfl ?_
 simp [fillL]
theorem sendE_no {x:Snd} {r:Rdg} (h: ¬(putE r=0∧(kindsL x.s.kd).contains r.kind=true)):sendE x r=120:=if_neg h
theorem sendE_yes {x:Snd} {r:Rdg} (h:putE r=0∧(kindsL x.s.kd).contains r.kind=true):sendE x r=if x.ct=18446744073709551615 then 3 else 0:=if_pos h
theorem kindsL_len (n:Int):(kindsL n).length≤6:=by unfold kindsL;split <;> (try split) <;> simp
theorem snd_ct {x:Snd} (h:x.s.rt.length=32):x.cells[0+49]? =some (.int .u64 (x.ct:Int)):=snd_t h 1
theorem snd_ep {x:Snd} (h:x.s.rt.length=32):x.cells[0+48]? =some (.int .u32 (x.ep:Int)):=snd_t h 0
theorem snd_rt (x:Snd):∀(j:Nat) (u:Value),(bytes x.s.rt)[j]? =some u→x.cells[0+0+2+j]? =some u:=fun j u hj=> by
 rw [Snd.cells,Sr.cells,show 0+0+2+j=j+1+1 by omega,List.cons_append,List.cons_append]
 simp only [List.getElem?_cons_succ]
 rw [List.append_assoc,List.getElem?_append_left (List.getElem?_eq_some_iff.1 hj).1];exact hj
theorem esend_any (z:Crw) (A B:List Snd) (x:Snd) (r:Rdg) (hr:r.Ok) (hz:z.Ok) (hT:z.T=A++x::B) (hm:z.l.length < 1000):Spc prog 57 #[.pointer (some ⟨z.b,0,none⟩), .pointer (some ⟨x.b,0,none⟩), .agg r.cells.toArray] [] [crwI z] (SendR z A B x r):=by
 have hx:=hz.T x (by rw [hT];simp)
 have hs:=hz.L x.s hx.1
 have hrt:=hs.1.rt
 have hct:=hx.2.2
 have hbl:=putB_len48 r
 have h57:r.cells.length=57:=rfl
 refine Spc.en func57 rfl rfl (fun w0 hw0=> ?_)
 refine CW.sg [0] [] (RL.box rfl ?_)
 intro b1
 refine RL.qn rfl (CW.ss (CW.fP (A:= [cel b1 r.cells 69]) (B:= [crwI z]) pE rfl ?_))
 refine CW.gI (fun J hJ=> ?_)
 have m1:cel b1 r.cells 69∈J:=hJ _ (List.Mem.head _)
 clear hJ
 have fk:RdI J ⟨b1,0+0,none⟩ (.int .i64 r.kind):=⟨fun _=> Rd.celI m1 rfl⟩
 have fA:RdsN J ⟨b1,0,none⟩ 57 r.cells:=⟨fun _=> Rds.allI m1,h57⟩
 refine CW.sndOpen (C:= []) hT (CW.perm (List.Perm.refl [sndI x,PK.allI ((A++B).map sndI),crwC z,crwM z,crwS z,crwL z,crwR z,crwK z,crwE z,crwB z]) (CW.rn (ef:= [1]) (bk:= []) (RL.lS isAgg69 sizeOf69 rfl ?_)))
 refine RL.cc (put_any r hr) call60 rfl pE .nil (.inl rfl) ?_
 rintro _ _ _ ⟨bo,bc,rfl,rfl,rfl⟩
 refine RL.q rfl (RL.p rfl (RL.qn rfl (CW.ok [0,1,5,8,9] rfl (CW.ss (CW.bs ?_)))))
 by_cases hp:putE r=0
 ·
  refine CW.rD (Sq.of (rg 0 7++[9,10,8,11,12,13,14])) [8,11] [] (rg 0 6++[9,10,12,13,14]) mixed zi ?_
  refine RL.q rfl (RL.p rfl (RL.tt (d:=18) (v':= .bool false) rfl ((by rw [hp];rfl)) ?_))
  refine RL.q rfl (RL.fa fa_125_0 rfl (RL.fa fa_122_1 rfl (RL.load isAgg3 rfl (Rd.get (v:= .int .i64 x.s.kd) mQ rfl) ?_)))
  refine RL.fa fa_69_0 rfl (RL.lT isAgg3 rfl ?_)
  refine RL.cc (kinds_any x.s.kd) call37 rfl pE .nil (.inl rfl) ?_
  rintro _ _ _ ⟨ko,kc,rfl,rfl,rfl⟩
  refine RL.vv (cont_int (ko.map fun b=> ⟨b,0,none⟩) kc _ (kindsL x.s.kd) r.kind rfl (by have:=kindsL_len x.s.kd;omega)) call70 rfl (Lend.own mQ .nil) ?_
  refine RL.p rfl (RL.qn rfl (CW.ok [0,1,5,8,15] rfl ?_))
  refine CW.cd rfl (fun hk=> ?_) (fun hk=> ?_)
  ·
   refine CW.s1 rfl (CW.rr (RQ.bb (RQ.ss ?_)))
   have hk: ¬(kindsL x.s.kd).contains r.kind=true:=by simpa using hk
   have hE:=sendE_no (x:=x) (r:=r) (fun h=> hk h.2)
   refine RQ.sndBack (C:= []) hT rE ?_
   exact RQ.pp (res2 rfl rfl rfl) (.keep .nil) ⟨rfl, .inl ⟨by rw [hE];decide,by rw [hE],rfl⟩⟩
  ·
   refine CW.sr (RL.q rfl (RL.fa fa_125_2 rfl (RL.load isAgg32 rfl (Rd.get mQ (snd_ct hrt)) ?_)))
   refine RL.qn rfl (CW.ok [0,1,5,8,30] rfl ?_)
   have hk:(kindsL x.s.kd).contains r.kind=true:=by simpa using hk
   have hE:=sendE_yes (x:=x) ⟨hp,hk⟩
   refine CW.cd rfl (fun hc=> ?_) (fun hc=> ?_)
   ·
    refine CW.s1 rfl (CW.rr (RQ.bb (RQ.ss ?_)))
    have hc:x.ct=18446744073709551615:=by simp at hc;omega
    rw [if_pos hc] at hE
    refine RQ.sndBack (C:= []) hT rE ?_
    exact RQ.pp (res2 rfl rfl rfl) (.keep .nil) ⟨rfl, .inl ⟨by rw [hE];decide,by rw [hE],rfl⟩⟩
   ·
    have hc:x.ct≠18446744073709551615:=by simp at hc;omega
    rw [if_neg hc] at hE
    refine CW.kk (NQ.bb (NQ.ss (CW.sg [7] [7] (RL.q rfl (RL.fa fa_125_2 rfl (RL.load isAgg32 rfl (Rd.get mQ (snd_ct hrt)) ?_))))))
    refine RL.bx rfl (wrapV_u64 zb zb) ?_
    refine RL.p rfl (RL.fa fa_125_2 rfl (RL.sX (vs:= [_]) (set_ct hrt (x.ct+1)) sizeOf32 rfl rfl uE (by rw [snd_len hrt];show 0+49+1≤50;decide) ?_))
    refine RL.ns (CW.ok [0,1,5,8] rfl (CW.ss (CW.sndClose (ep:=x.ep) (ct:=x.ct+1) (C:= [own bo bc 5 1 (putB r).length (bytes (putB r))]) hT rE ?_)))
    have hfit:=frS_fit (r:=r) hs.2 hx.2.1 hct hE
    have hy:Lies (crwI (z.setT (A++x.set x.ep (x.ct+1)::B))) (sndI (x.set x.ep (x.ct+1))):=
     (Lies.allI (x:=crwT (z.setT (A++x.set x.ep (x.ct+1)::B))) zm).trans (Lies.allI (List.mem_map.2 ⟨_,by simp [Crw.setT],rfl⟩))
    have hsg:=sign_any ⟨r.kind,x.s.id,x.ep,x.ct+1,putB r,List.replicate 16 0#8⟩ x.s.rt (bo.map fun b=> ⟨b,0,none⟩) bc _ hrt ⟨hx.2.1,by show x.ct+1 < 18446744073709551616;omega,rfl⟩ rfl (by show (putB r).length≤900000;omega)
    have hbo:bodyO ⟨frS x r,bo,bc⟩=own bo bc 5 1 (putB r).length (bytes (putB r)):=rfl
    have hput:=eput_any (z.setT (A++x.set x.ep (x.ct+1)::B)) ⟨frS x r,bo,bc⟩ hz.cm (Nat.le_of_lt hm) hz.E hfit
    rw [hbo] at hput
    refine CW.rD (Sq.of (rg 0 28)) [24] [24] [0,1,2,3,4,6,7,8,9,10,11,13,14,15,17,18,19,21,22,25,26,27,28] mixed zi ?_
    refine RL.q rfl (RL.p rfl (RL.fa fa_125_0 rfl (RL.fa fa_122_2 rfl (RL.ld (vs:=bytes x.s.rt) isAgg31 (by rw [List.length_map,hrt];exact sizeOf31) rfl (Rds.lie mQ hy (snd_rt (x.set x.ep (x.ct+1)))) ?_))))
    refine RL.fa fa_69_0 rfl (RL.lT isAgg3 rfl ?_)
    refine RL.q rfl (RL.fa fa_125_0 rfl (RL.fa fa_122_0 rfl (RL.load isAgg3 rfl (Rd.lie (v:= .int .i64 x.s.id) mQ hy rfl) ?_)))
    refine RL.q rfl (RL.fa fa_125_1 rfl (RL.load isAgg61 rfl (Rd.lie mQ hy (snd_ep (x:=x.set x.ep (x.ct+1)) hrt)) ?_))
    refine RL.q rfl (RL.fa fa_125_2 rfl (RL.load isAgg32 rfl (Rd.lie mQ hy (snd_ct (x:=x.set x.ep (x.ct+1)) hrt)) ?_))
    refine RL.p rfl (RL.bS ((⟨r.kind,x.s.id,x.ep,x.ct+1,putB r,List.replicate 16 0#8⟩:Fr).cells (slO bo (putB r).length bc)) zeroValue78 pl_78 (qP rfl (qP rfl (fill_fr rfl rfl))) (RL.vv (hsg) call101 rfl (Lend.own (xs:=bytes (putB r)) mQ .nil) ?_))
    refine RL.cq (hput) call61 rfl (.inr rfl) ?_
    rintro _ _ _ ⟨rb,rc,so,soc,E',rfl,rfl,rfl,hok⟩
    refine RL.q rfl (RL.qn rfl (CW.ok [6,7] rfl (CW.rr ?_)))
    exact RQ.pp (res2 rfl rfl rfl) (.keep (.keep .nil)) ⟨rfl, .inr ⟨hE,rb,rc,bo,bc,so,soc,E',rfl,rfl,hok⟩⟩
 ·
  refine CW.rD (Sq.of (rg 0 7++[9,10,8,11,12,13,14])) [8] [] (rg 0 7++rg 9 14) mixed zi ?_
  refine RL.q rfl (RL.p rfl (RL.tt (d:=18) (v':= .bool true) rfl ((by simp [hp])) ?_))
  refine RL.q rfl (RL.q rfl (RL.q rfl (RL.q rfl (RL.q rfl (RL.qn rfl ?_)))))
  refine CW.ok [0,1,5,8,15] rfl (CW.cT rfl rfl (CW.s1 rfl (CW.rr (RQ.bb (RQ.ss ?_)))))
  have hE:=sendE_no (x:=x) (r:=r) (fun h=> hp h.1)
  refine RQ.sndBack (C:= []) hT rE ?_
  exact RQ.pp (res2 rfl rfl rfl) (.keep .nil) ⟨rfl, .inl ⟨by rw [hE];decide,by rw [hE],rfl⟩⟩
theorem Lend.lieO {x y:It} {I F J:List It} (hs:Lies x y) (hm:x∈F) (h:Lend I F J):Lend I F (y::J):=
 .of (fun w hw=> hs.A w (hw.h x hm)) (fun c hc=> .inr (mem_bss.2 ⟨x,hm,hs.bs c hc⟩)) h
theorem lie_c (z:Crw):Lies (crwI z) (crwC z):=Lies.allI (List.Mem.head _)
theorem lie_m (z:Crw):Lies (crwI z) (crwM z):=Lies.allI (List.Mem.tail _ (List.Mem.head _))
theorem lie_x {z:Crw} {x:Snd} (h:x∈z.T):Lies (crwI z) (sndI x):=(Lies.allI (x:=crwT z) zm).trans (Lies.allI (List.mem_map.2 ⟨x,h,rfl⟩))
theorem atT_split {T:List Snd} {n:Int} {x:Snd} (h:atT T n=some x):n=x.s.id∧∃A B,T=A++x::B∧∀a∈A,n≠a.s.id:=by
 obtain ⟨h1,A,B,h2,h3⟩:=List.find?_eq_some_iff_append.1 h
 exact ⟨by simpa using h1,A,B,h2,fun a ha=> by simpa using h3 a ha⟩
theorem findV_some {T:List Snd} {n:Int} {x:Snd} (h:atT T n=some x):findV T n= .tuple #[.pointer (some ⟨x.b,0,none⟩), .int .i64 0]:=by rw [findV,h]
theorem findV_none {T:List Snd} {n:Int} (h:atT T n=none):findV T n= .tuple #[.pointer none, .int .i64 5]:=by rw [findV,h]
def ErrQ (z:Crw) (e:Int):Value→List It→List It→Prop:=fun v I' H'=> v= .tuple #[.slice none 0 0, .int .i64 e]∧I'= []∧H'= [crwI z]
def SendQ (z:Crw) (n:Int) (r:Rdg):Value→List It→List It→Prop:=fun v I' H'=> (atT z.T n=none∧ErrQ z 5 v I' H')∨∃A B x,z.T=A++x::B∧atT z.T n=some x∧((r.kind=10∧ErrQ z 120 v I' H')∨(r.kind≠10∧SendR z A B x r v I' H'))
theorem eSend_any (z:Crw) (n:Int) (r:Rdg) (hr:r.Ok) (hz:z.Ok) (hm:z.l.length < 1000):Spc prog 19 #[.pointer (some ⟨z.b,0,none⟩), .int .i64 n, .agg r.cells.toArray] [] [crwI z] (SendQ z n r):=by
 have h57:r.cells.length=57:=rfl
 refine Spc.en func19 rfl rfl (fun w0 hw0=> ?_)
 refine CW.sg [0] [] (RL.box rfl ?_)
 intro b1
 refine RL.qn rfl (CW.ss (CW.fP (A:= [cel b1 r.cells 69]) (B:= [crwI z]) pE rfl ?_))
 refine CW.gI (fun J hJ=> ?_)
 have m1:cel b1 r.cells 69∈J:=hJ _ (List.Mem.head _)
 clear hJ
 have fk:RdI J ⟨b1,0+0,none⟩ (.int .i64 r.kind):=⟨fun _=> Rd.celI m1 rfl⟩
 have fA:RdsN J ⟨b1,0,none⟩ 57 r.cells:=⟨fun _=> Rds.allI m1,h57⟩
 have hfi:=efind_any z hz.cm n
 cases hx:atT z.T n with
 | none=>
  rw [findV_none hx] at hfi
  refine CW.rg (RL.q rfl (RL.vv (hfi) call56 rfl (Lend.lieO (lie_c z) mQ (Lend.lieO (lie_m z) mQ .nil)) ?_))
  refine RL.q rfl (RL.p rfl (RL.qn rfl (CW.ok [0,5,8,9] rfl (CW.ss (CW.bb (CW.sr (RL.q rfl ?_)))))))
  refine RL.pn rfl (CW.cT rfl (rfl) (CW.sr (RL.p rfl (RL.qn rfl (CW.rr (RQ.bb (RQ.ss ?_)))))))
  exact RQ.pp (res2 rfl rfl rfl) (.keep .nil) (.inl ⟨hx,rfl,rfl,rfl⟩)
 | some x=>
  rw [findV_some hx] at hfi
  obtain ⟨-,A,B,hT, -⟩:=atT_split hx
  refine CW.rg (RL.q rfl (RL.vv (hfi) call56 rfl (Lend.lieO (lie_c z) mQ (Lend.lieO (lie_m z) mQ .nil)) ?_))
  refine RL.q rfl (RL.p rfl (RL.qn rfl (CW.ok [0,5,8,9] rfl (CW.ss (CW.bb (CW.sr (RL.q rfl ?_)))))))
  refine RL.pn rfl (CW.cF rfl (rfl) (CW.sr (RL.fa fa_69_0 rfl (RL.lq isAgg3 rfl ?_))))
  refine RL.qn rfl (CW.ok [0,5,8,20] rfl ?_)
  refine CW.cd rfl (fun hk=> ?_) (fun hk=> ?_)
  ·
   refine CW.s1 rfl (CW.rr (RQ.bb (RQ.ss ?_)))
   have hk:r.kind=10:=by simpa using hk
   exact RQ.pp (res2 rfl rfl rfl) (.keep .nil) (.inr ⟨A,B,x,hT,hx, .inl ⟨hk,rfl,rfl,rfl⟩⟩)
  ·
   have hk:r.kind≠10:=by simpa using hk
   refine CW.kk (NQ.bb (NQ.ss (CW.sg [3] [3] (RL.q rfl (RL.lS isAgg69 sizeOf69 rfl ?_)))))
   refine RL.cq (esend_any z A B x r hr hz hT hm) call57 rfl (.inr rfl) ?_
   rintro v I' H' hv
   have hv':=hv
   rcases hv' with ⟨rfl,⟨-,rfl,rfl⟩ | ⟨-,rb,rc,bo,bc,so,soc,E',rfl,rfl, -⟩⟩
   ·
    refine RL.q rfl (RL.qn rfl (CW.ok [6,7] rfl (CW.rr ?_)))
    exact RQ.pp (res2 rfl rfl rfl) (.keep .nil) (.inr ⟨A,B,x,hT,hx, .inr ⟨hk,hv⟩⟩)
   ·
    refine RL.q rfl (RL.qn rfl (CW.ok [6,7] rfl (CW.rr ?_)))
    exact RQ.pp (res2 rfl rfl rfl) (.keep (.keep .nil)) (.inr ⟨A,B,x,hT,hx, .inr ⟨hk,hv⟩⟩)
def rollR (ep:Nat):Rdg:=⟨10,0,0,0,0,0,0,0,0,0,0,0,0,0,0,0,fun _=> 0,0,0,(ep:Int)+1,0,0,0,0,0,0⟩
def RollR (z:Crw) (A B:List Snd) (x:Snd):Value→List It→List It→Prop:=fun v I' H'=> I'= []∧((sendE x (rollR x.ep)≠0∧v= .tuple #[.slice none 0 0, .int .i64 (sendE x (rollR x.ep))]∧H'= [crwI z])∨
 (sendE x (rollR x.ep)=0∧∃rb rc bo bc so soc E',v= .tuple #[slO rb (frB (frS x (rollR x.ep))).length rc, .int .i64 0]∧H'= [crwI ((z.setT (A++x.set (x.ep+1) 0::B)).put ⟨frS x (rollR x.ep),bo,bc⟩ so soc E'),own rb rc 5 1 (frB (frS x (rollR x.ep))).length (bytes (frB (frS x (rollR x.ep))))]∧SOk E' (z.l++ [⟨frS x (rollR x.ep),bo,bc⟩])))
def RollQ (z:Crw) (n:Int):Value→List It→List It→Prop:=fun v I' H'=> (atT z.T n=none∧ErrQ z 5 v I' H')∨∃A B x,z.T=A++x::B∧atT z.T n=some x∧((x.ep=4294967295∧ErrQ z 3 v I' H')∨(x.ep≠4294967295∧RollR z A B x v I' H'))
theorem eRoll_any (z:Crw) (n:Int) (hz:z.Ok) (hm:z.l.length < 1000):Spc prog 20 #[.pointer (some ⟨z.b,0,none⟩), .int .i64 n] [] [crwI z] (RollQ z n):=by
 refine Spc.en func20 rfl rfl (fun w0 hw0=> ?_)
 refine CW.s1 rfl (CW.ss ?_)
 have hfi:=efind_any z hz.cm n
 cases hx:atT z.T n with
 | none=>
  rw [findV_none hx] at hfi
  refine CW.rg (RL.q rfl (RL.vv (hfi) call56 rfl (Lend.lieO (lie_c z) mQ (Lend.lieO (lie_m z) mQ .nil)) ?_))
  refine RL.q rfl (RL.p rfl (RL.qn rfl (CW.ok [0,6,7] rfl (CW.ss (CW.bb (CW.sr (RL.q rfl ?_)))))))
  refine RL.pn rfl (CW.cT rfl (rfl) (CW.sr (RL.p rfl (RL.qn rfl (CW.rr (RQ.bb (RQ.ss ?_)))))))
  exact RQ.pp (res2 rfl rfl rfl) (.keep .nil) (.inl ⟨hx,rfl,rfl,rfl⟩)
 | some x=>
  rw [findV_some hx] at hfi
  obtain ⟨-,A,B,hT, -⟩:=atT_split hx
  have hxm:x∈z.T:=by rw [hT];simp
  have hxo:=hz.T x hxm
  have hs:=hz.L x.s hxo.1
  have hrt:=hs.1.rt
  have hep:=hxo.2.1
  refine CW.rg (RL.q rfl (RL.vv (hfi) call56 rfl (Lend.lieO (lie_c z) mQ (Lend.lieO (lie_m z) mQ .nil)) ?_))
  refine RL.q rfl (RL.p rfl (RL.qn rfl (CW.ok [0,6,7] rfl (CW.ss (CW.bb (CW.sr (RL.q rfl ?_)))))))
  refine RL.pn rfl (CW.cF rfl (rfl) (CW.sr (RL.q rfl (RL.fa fa_125_1 rfl (RL.load isAgg61 rfl (Rd.lie mQ (lie_x hxm) (snd_ep hrt)) ?_)))))
  refine RL.qn rfl (CW.ok [0,6,7,19] rfl ?_)
  refine CW.cd rfl (fun hk=> ?_) (fun hk=> ?_)
  ·
   refine CW.s1 rfl (CW.rr (RQ.bb (RQ.ss ?_)))
   have hk:x.ep=4294967295:=by simp at hk;omega
   exact RQ.pp (res2 rfl rfl rfl) (.keep .nil) (.inr ⟨A,B,x,hT,hx, .inl ⟨hk,rfl,rfl,rfl⟩⟩)
  ·
   have hk:x.ep≠4294967295:=by simp at hk;omega
   have hro:(rollR x.ep).Ok:=⟨rfl,rfl,rfl,rfl,rfl,rfl,rfl,rfl,rfl,rfl,rfl,rfl,rfl,rfl,rfl,rfl,by simp only [rollR,wfk,Lit.wf,IntKind.min,IntKind.max,IntKind.signed,IntKind.bits,Bool.and_eq_true,decide_eq_true_eq,Bool.false_eq_true,if_false];omega,rfl,rfl,rfl,rfl⟩
   refine CW.kk (NQ.bb (NQ.ss (CW.sg [8] [8] (RL.q rfl (RL.q rfl (RL.fa fa_125_1 rfl (RL.load isAgg61 rfl (Rd.lie mQ (lie_x hxm) (snd_ep hrt)) ?_)))))))
   refine RL.bx rfl (wrapV_u32 zb zb) ?_
   refine RL.bS (rollR x.ep).cells zeroValue69 pl_69 rfl (RL.cq (esend_any z A B x (rollR x.ep) hro hz hT hm) call57 rfl (.inr rfl) ?_)
   rintro v I' H' hv
   have hv':=hv
   rcases hv' with ⟨rfl,⟨hE,rfl,rfl⟩ | ⟨hE,rb,rc,bo,bc,so,soc,E',rfl,rfl,hok⟩⟩
   ·
    refine RL.q rfl (RL.p rfl (RL.qn rfl (CW.ok [6,7,8] rfl (CW.ss (CW.sr (RL.q rfl (RL.ee ?_)))))))
    refine NQ.ss (CW.cF rfl ((by simpa using hE)) ?_)
    refine CW.sn (CW.sr (RL.q rfl (RL.qn rfl (CW.ok [4,5] rfl (CW.rr ?_)))))
    exact RQ.pp (res2 rfl rfl rfl) (.keep .nil) (.inr ⟨A,B,x,hT,hx, .inr ⟨hk,rfl, .inl ⟨hE,rfl,rfl⟩⟩⟩)
   ·
    refine RL.q rfl (RL.p rfl (RL.qn rfl (CW.ok [6,7,8] rfl (CW.ss (CW.sr (RL.q rfl (RL.ee ?_)))))))
    refine NQ.ss (CW.cT rfl (rfl) ?_)
    obtain ⟨z2,hz2⟩:∃z2:Crw,z2=(z.setT (A++x.set x.ep (x.ct+1)::B)).put ⟨frS x (rollR x.ep),bo,bc⟩ so soc E':=⟨_,rfl⟩
    rw [←hz2]
    refine CW.sndOpen (z:=z2) (A:=A) (B:=B) (x:=x.set x.ep (x.ct+1)) (C:= [own rb rc 5 1 (frB (frS x (rollR x.ep))).length (bytes (frB (frS x (rollR x.ep))))]) (by rw [hz2];rfl) ?_
    refine CW.perm (List.Perm.refl [sndI (x.set x.ep (x.ct+1)),PK.allI ((A++B).map sndI),crwC z2,crwM z2,crwS z2,crwL z2,crwR z2,crwK z2,crwE z2,crwB z2,own rb rc 5 1 (frB (frS x (rollR x.ep))).length (bytes (frB (frS x (rollR x.ep))))]) ?_
    have hrd:(x.set x.ep (x.ct+1)).cells[0+48]? =some (.int .u32 (x.ep:Int)):=snd_ep (x:=x.set x.ep (x.ct+1)) hrt
    refine CW.rn (ef:= [9,12]) (bk:= [9,12]) (RL.q rfl (RL.q rfl (RL.fa fa_125_1 rfl (RL.load isAgg61 rfl (Rd.get mQ hrd) ?_))))
    refine RL.bx rfl (wrapV_u32 zb zb) ?_
    refine RL.p rfl (RL.fa fa_125_1 rfl (RL.sX (vs:= [_]) (set_ep (x:=x.set x.ep (x.ct+1)) hrt (x.ep+1)) sizeOf61 rfl rfl uE (by rw [snd_len (x:=x.set x.ep (x.ct+1)) hrt];show 0+48+1≤50;decide) ?_))
    refine RL.p rfl (RL.fa fa_125_2 rfl (RL.sX (vs:= [.int .u64 ((0:Nat):Int)]) (set_ct (x:=x.set (x.ep+1) (x.ct+1)) hrt 0) sizeOf32 rfl rfl uE (by rw [snd_len (x:=x.set (x.ep+1) (x.ct+1)) hrt];show 0+49+1≤50;decide) ?_))
    refine RL.ns (CW.ok [7,8] rfl (CW.sr (RL.q rfl (RL.qn rfl (CW.rr (RQ.sndClose (z:=z2) (A:=A) (B:=B) (x:=x.set x.ep (x.ct+1)) (ep:=x.ep+1) (ct:=0) (C:= [own rb rc 5 1 (frB (frS x (rollR x.ep))).length (bytes (frB (frS x (rollR x.ep))))]) (by rw [hz2];rfl) rE ?_))))))
    rw [hz2]
    exact RQ.pp (res2 rfl rfl rfl) (.keep (.keep .nil)) (.inr ⟨A,B,x,hT,hx, .inr ⟨hk,rfl, .inr ⟨hE,rb,rc,bo,bc,so,soc,E',rfl,rfl,hok⟩⟩⟩)
def skipC (ct n:Nat):Nat:=min (ct+n) 18446744073709551615
def SkipQ (z:Crw) (n:Int) (by_:Nat):Value→List It→List It→Prop:=fun v I' H'=> (atT z.T n=none∧v= .int .i64 5∧I'= []∧H'= [crwI z])∨∃A B x,z.T=A++x::B∧atT z.T n=some x∧v= .int .i64 0∧I'= []∧H'= [crwI (z.setT (A++x.set x.ep (skipC x.ct by_)::B))]
theorem eSkip_any (z:Crw) (n:Int) (m:Nat) (hz:z.Ok) (hm:m < 18446744073709551616):Spc prog 24 #[.pointer (some ⟨z.b,0,none⟩), .int .i64 n, .int .u64 (m:Int)] [] [crwI z] (SkipQ z n m):=by
 refine Spc.en func24 rfl rfl (fun w0 hw0=> ?_)
 refine CW.sr (RL.pn rfl (CW.ss ?_))
 have hfi:=efind_any z hz.cm n
 cases hx:atT z.T n with
 | none=>
  rw [findV_none hx] at hfi
  refine CW.rg (RL.q rfl (RL.vv (hfi) call56 rfl (Lend.lieO (lie_c z) mQ (Lend.lieO (lie_m z) mQ .nil)) ?_))
  refine RL.q rfl (RL.p rfl (RL.qn rfl (CW.ok [2,7,8] rfl (CW.ss (CW.sr (RL.q rfl (RL.ee ?_)))))))
  refine NQ.ss (CW.cF rfl (rfl) (CW.sn (CW.s1 rfl (CW.ok [6] rfl (CW.rr ?_)))))
  exact RQ.pp (res1 rfl rfl) (.keep .nil) (.inl ⟨hx,rfl,rfl,rfl⟩)
 | some x=>
  rw [findV_some hx] at hfi
  obtain ⟨-,A,B,hT, -⟩:=atT_split hx
  have hxm:x∈z.T:=by rw [hT];simp
  have hxo:=hz.T x hxm
  have hs:=hz.L x.s hxo.1
  have hrt:=hs.1.rt
  have hct:=hxo.2.2
  refine CW.rg (RL.q rfl (RL.vv (hfi) call56 rfl (Lend.lieO (lie_c z) mQ (Lend.lieO (lie_m z) mQ .nil)) ?_))
  refine RL.q rfl (RL.p rfl (RL.qn rfl (CW.ok [2,7,8] rfl (CW.ss (CW.sr (RL.q rfl (RL.ee ?_)))))))
  refine NQ.ss (CW.cT rfl (rfl) (CW.sndOpen (C:= []) hT (CW.perm (List.Perm.refl [sndI x,PK.allI ((A++B).map sndI),crwC z,crwM z,crwS z,crwL z,crwR z,crwK z,crwE z,crwB z]) (CW.rD (Sq.of (rg 0 14)) [14] [14] [0,1,2,4,5,6,7,9,10,11,12,13] mixed zi ?_))))
  refine RL.q rfl (RL.fa fa_125_2 rfl (RL.load isAgg32 rfl (Rd.get mQ (snd_ct hrt)) ?_))
  refine RL.q rfl (RL.p rfl (RL.fa fa_125_2 rfl (RL.load isAgg32 rfl (Rd.get mQ (snd_ct hrt)) ?_)))
  refine RL.bx rfl (wrapV_u64 zb zb) ?_
  refine RL.min rfl (RL.p rfl (RL.tt (d:=28) (v':= .int .u64 (skipC x.ct m:Int)) rfl (by rw [wrapV_u64 zb zb];congr 1;unfold skipC;omega) ?_))
  refine RL.p rfl (RL.fa fa_125_2 rfl (RL.sX (vs:= [_]) (set_ct hrt (skipC x.ct m)) sizeOf32 rfl rfl uE (by rw [snd_len hrt];show 0+49+1≤50;decide) ?_))
  refine RL.ns (CW.ok [8] rfl (CW.s1 rfl (CW.rr (RQ.sndClose (ep:=x.ep) (ct:=skipC x.ct m) (C:= []) hT rE ?_))))
  exact RQ.pp (res1 rfl rfl) (.keep .nil) (.inr ⟨A,B,x,hT,hx,rfl,rfl,rfl⟩)
end Go.Proofs.YtkineolcmdecjaaGreat
