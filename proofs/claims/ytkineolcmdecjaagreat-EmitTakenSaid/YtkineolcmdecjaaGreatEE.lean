import Derived.Test.YtkineolcmdecjaaGreatCA
import Derived.Test.YtkineolcmdecjaaGreatBA
import Derived.Test.YtkineolcmdecjaaGreatPD
import Derived.Test.YtkineolcmdecjaaGreatUD
namespace Go.Proofs.YtkineolcmdecjaaGreat
open Go.PK
open Tryz
def RevI (l:List (List B8)) (n i:Nat) (L:List (List B8)):Prop:=L.length=n∧(∀x∈L,x.length=32)∧∀k < n,L[k]? =if k < i∨n - i≤k then l[n - 1 - k]? else l[k]?
theorem RevI.step {l L:List (List B8)} {n i:Nat} {x y:List B8} (h:RevI l n i L) (hi:i < n - 1 - i) (hx:L[i]? =some x) (hy:L[n - 1 - i]? =some y):RevI l n (i+1) ((L.set i y).set (n - 1 - i) x):=by
 obtain ⟨h1,h2,h3⟩:=h
 have ex:=h3 i zb
 have ey:=h3 (n - 1 - i) zb
 rw [if_neg zb,hx] at ex
 rw [if_neg zb,hy] at ey
 refine ⟨by simp [h1],fun z hz=> ?_,fun k hk=> ?_⟩
 ·rcases List.mem_or_eq_of_mem_set hz with hz | rfl
  ·rcases List.mem_or_eq_of_mem_set hz with hz | rfl
   ·exact h2 z hz
   ·exact h2 _ (List.mem_of_getElem? hy)
  ·exact h2 _ (List.mem_of_getElem? hx)
 ·by_cases h4:k=n - 1 - i
  ·subst h4
   rw [List.getElem?_set_self (by simp [h1];omega),if_pos zb,show n - 1 - (n - 1 - i)=i by omega,ex]
  ·rw [List.getElem?_set_ne zb]
   by_cases h5:k=i
   ·subst h5
    rw [List.getElem?_set_self zb,if_pos zb,ey]
   ·rw [List.getElem?_set_ne zb,h3 k hk]
    by_cases h6:k < i∨n - i≤k
    ·rw [if_pos h6,if_pos zb]
    ·rw [if_neg h6,if_neg zb]
theorem RevI.done {l L:List (List B8)} {n i:Nat} (hl:l.length=n) (h:RevI l n i L) (hi:n≤2*i+1):L=l.reverse:=by
 obtain ⟨h1,h2,h3⟩:=h
 apply List.ext_getElem?
 intro k
 by_cases hk:k < n
 ·rw [h3 k hk,List.getElem?_reverse zb,hl]
  split
  ·rfl
  ·rw [show n - 1 - k=k by omega]
 ·rw [List.getElem?_eq_none zb,List.getElem?_eq_none zp]
theorem flatK_set {L:List (List B8)} (hL:∀x∈L,x.length=32) {y:List B8} (hy:y.length=32) {q:Nat} (hq:q < L.length):spl (flatK L) (q*32) (bytes y)=flatK (L.set q y):=
 spl_flat (f:=bytes) y (fun a ha=> by rw [List.length_map];exact hL a ha) (by rw [List.length_map];exact hy) hq
theorem flatK_len:∀ {L:List (List B8)},(∀x∈L,x.length=32)→(flatK L).length=L.length*32
 | [],_=> rfl
 | a::L,h=> by
  have ih:=flatK_len (L:=L) (fun x hx=> h x (by simp [hx]))
  simp only [flatK] at ih
  rw [flatK,List.flatMap_cons,List.length_append,ih,List.length_map,h a zm,List.length_cons];omega
theorem rev_none:Spc prog 78 #[.slice none 0 0] [] [] (Is (.tuple #[])):=by
 refine Spc.en func78 rfl rfl (fun w0 hw0=> ?_)
 refine CW.sr (RL.p rfl (RL.lenS runUnderlying89 rfl (RL.bx rfl (wrapV_i64 zb zb) ?_)))
 refine RL.qn rfl (CW.bb (CW.loop (γ:=Unit) (fun _=> True) (fun _=> [(0, .slice none 0 0),(2, .int .i64 0),(3, .int .i64 (-1))]) (fun _=> []) (fun _=> []) (fun _=> 0) () trivial sE (fun w h=> h) ?_))
 rintro _ _
 refine CW.ss (CW.sr (RL.p rfl (RL.qn rfl (CW.cF rfl (rfl) (CW.xx (XQ.ss (XQ.ss (XQ.hh ?_))))))))
 exact RQ.pp (res0 rfl) (Split.nn _) ⟨rfl,rfl,rfl⟩
theorem rev_keys (b c n:Nat) (l:List (List B8)) (hn:l.length=n) (hl:∀x∈l,x.length=32) (hb:n≤1000000):Spc prog 78 #[.slice (some ⟨b,0,none⟩) n c] [] [own (some b) c 31 32 n (flatK l)] (fun v I' H'=> v= .tuple #[]∧I'= []∧H'= [own (some b) c 31 32 n (flatK l.reverse)]):=by
 refine Spc.en func78 rfl rfl (fun w0 hw0=> ?_)
 refine CW.sr (RL.p rfl (RL.lenS runUnderlying89 rfl (RL.bx rfl (wrapV_i64 zb zb) ?_)))
 refine RL.qn rfl (CW.bb (CW.loop (γ:=Nat×List (List B8)) (fun g=> 2*g.1≤n∧RevI l n g.1 g.2) (fun g=> [(0, .slice (some ⟨b,0,none⟩) n c),(2, .int .i64 (g.1:Int)),(3, .int .i64 ((n:Int) - 1 - g.1))]) (fun _=> []) (fun g=> [own (some b) c 31 32 n (flatK g.2)]) (fun g=> n - g.1) (0,l) ⟨zb,hn,hl,fun k hk=> by rw [if_neg zb]⟩ (.cons rfl (.cons rfl (.cons (by simp;rfl) .nil))) (fun w h=> h) ?_))
 rintro ⟨i,L⟩ ⟨hi,hL⟩
 dsimp only at hi hL ⊢
 have hLl:=hL.1
 have hL2:=hL.2.1
 refine CW.ss (CW.sr (RL.p rfl (RL.qn rfl ?_)))
 refine CW.cd rfl (fun hlt=> ?_) (fun hlt=> ?_)
 ·
  have hlt:i < n - 1 - i:=by simp at hlt;omega
  have hx:=List.getElem?_eq_getElem (show i < L.length by omega)
  have hy:=List.getElem?_eq_getElem (show n - 1 - i < L.length by omega)
  generalize L[i]=x at hx
  generalize L[n - 1 - i]=y at hy
  have hxl:=hL2 x (List.mem_of_getElem? hx)
  have hyl:=hL2 y (List.mem_of_getElem? hy)
  have hst:=hL.step hlt hx hy
  have hs1:∀z∈L.set i y,z.length=32:=fun z hz=> by
   rcases List.mem_or_eq_of_mem_set hz with hz | rfl
   ·exact hL2 z hz
   ·exact hyl
  have hs2:(L.set i y).length=n:=by rw [List.length_set,hLl]
  refine CW.sn (CW.ss (CW.bb (CW.rD (Sq.of (rg 0 15)) [13,15] [13,15] (rg 0 6++[8,9,10,12,14]) mixed zi ?_)))
  refine RL.q rfl (RL.q rfl (RL.q rfl (RL.tt (d:=19) (v':= .int .i64 ((n - 1 - i:Nat):Int)) rfl (by congr 1;omega) ?_)))
  refine RL.ix (j:=n - 1 - i) runUnderlying89 sizeOf31 rfl zb ?_
  refine RL.ld (vs:=bytes y) isAgg31 (by rw [List.length_map,hyl];exact sizeOf31) rfl (own_rds (f:=bytes) mQ hy (fun z hz=> by rw [List.length_map];exact hL2 z hz)) ?_
  refine RL.q rfl (RL.ix (j:=i) runUnderlying89 sizeOf31 rfl zb ?_)
  refine RL.ld (vs:=bytes x) isAgg31 (by rw [List.length_map,hxl];exact sizeOf31) rfl (own_rds (f:=bytes) mQ hx (fun z hz=> by rw [List.length_map];exact hL2 z hz)) ?_
  refine RL.ix (j:=i) runUnderlying89 sizeOf31 rfl zb ?_
  refine RL.storeO (off:=i*32) (flatK_set (L:=L) hL2 hyl zb) (by rw [List.length_map,hyl];exact sizeOf31) rfl (by rw [add_none]) rfl rfl (ones_map one8 _) (by rw [flatK_len hL2,List.length_map];omega) uE ?_
  refine RL.tt (d:=17) (v':= .int .i64 ((n - 1 - i:Nat):Int)) rfl (by congr 1;omega) ?_
  refine RL.ix (j:=n - 1 - i) runUnderlying89 sizeOf31 rfl zb ?_
  refine RL.storeO (off:=(n - 1 - i)*32) (flatK_set (L:=L.set i y) hs1 hxl zb) (by rw [List.length_map,hxl];exact sizeOf31) rfl (by rw [add_none]) rfl rfl (ones_map one8 _) (by rw [flatK_len hs1,List.length_map];omega) uE ?_
  refine RL.ee (NQ.bb (NQ.ss (CW.ok [0,2,3] rfl (CW.rg (RL.p rfl (RL.bx rfl (wrapV_i64 zb zb) ?_))))))
  refine RL.p rfl (RL.bx rfl (wrapV_i64 zb zb) ?_)
  refine RL.q rfl (RL.ee ?_)
  refine NQ.rr (g:=(i,L)) (i+1,(L.set i y).set (n - 1 - i) x) ⟨zb,hst⟩ (by show n - (i+1) < n - i;omega) (.cons rfl (.cons rfl (.cons (by show some (Value.int .i64 ((n:Int) - 1 - i - 1))=some (Value.int .i64 ((n:Int) - 1 - ((i+1:Nat):Int)));congr 2;omega) .nil))) (fun _ h=> h)
 ·
  have hin:n≤2*i+1:=by simp at hlt;omega
  have:=hL.done hn hin
  subst this
  refine CW.xx (XQ.ss (XQ.ss (XQ.hh ?_)))
  exact RQ.pp (res0 rfl) (.keep .nil) ⟨rfl,rfl,rfl⟩
theorem chainR_get (k:List B8) (n:Nat):(chainL k (n+1)).reverse[0]? =some (nextN k n):=by
 rw [List.getElem?_reverse (by rw [chainL_len];omega),chainL_len,show n+1 - 1 - 0=n by omega,chainL_get _ zb]
theorem chainR_all {k:List B8} (h:k.length=32) (n:Nat):∀x∈(chainL k n).reverse,x.length=32:=fun x hx=> chainL_all h n x (List.mem_reverse.1 hx)
def okN (n:Int):Prop:=1≤n∧n≤512
def KeysR (k:List B8) (n:Nat):Value→List It→List It→Prop:=fun v I' H'=> ∃b cap,v= .tuple #[slO (some b) (n+1) cap, .int .i64 0]∧I'= []∧H'= [own (some b) cap 31 32 (n+1) (flatK (chainL k (n+1)).reverse)]
theorem ekeys_ok (k:List B8) (hk:k.length=32) (n:Nat) (hn:okN n):Spc prog 35 #[.agg (bytes k).toArray, .int .i64 (n:Int)] [] [] (KeysR k n):=by
 unfold okN at hn
 refine Spc.en func35 rfl rfl (fun w0 hw0=> ?_)
 refine CW.sg [0] [] (RL.box rfl ?_)
 intro b1
 refine RL.qn rfl (CW.ss (CW.s1 rfl (CW.cF rfl (zp) ?_)))
 refine CW.sn (CW.sg [2] [] (RL.lW isAgg31 sizeOf31 rfl mQ (by first | rfl | assumption | (simp only [List.length_map];assumption) | (simp only [List.length_map,List.length_replicate,hk];done) | (simp;done)) ?_))
 refine RL.p rfl (RL.cq (all_ok k hk n zb) call77 rfl (.inl rfl) ?_)
 rintro _ _ _ ⟨b,cap,rfl,rfl,rfl⟩
 refine RL.q rfl (RL.p rfl (RL.qn rfl (CW.ok [6,7] rfl (CW.sg [1] [1] (RL.p rfl (RL.cq (rev_keys b cap _ (chainL k (n+1)) (chainL_len _ _) (chainL_all hk _) zb) call78 rfl (.inr rfl) ?_))))))
 rintro _ _ _ ⟨rfl,rfl,rfl⟩
 refine RL.ns (CW.sr (RL.q rfl (RL.qn rfl (CW.ok [4,5] rfl (CW.rr ?_)))))
 exact RQ.pp (res2 rfl rfl rfl) (.keep (.drop .nil)) ⟨b,cap,rfl,rfl,rfl⟩
theorem ekeys_bad (k:List B8) (hk:k.length=32) (n:Int) (hn: ¬okN n):Spc prog 35 #[.agg (bytes k).toArray, .int .i64 n] [] [] (Is (.tuple #[.slice none 0 0, .int .i64 2])):=by
 unfold okN at hn
 refine Spc.en func35 rfl rfl (fun w0 hw0=> ?_)
 refine CW.sg [0] [] (RL.box rfl ?_)
 intro b1
 refine RL.qn rfl (CW.ss (CW.s1 rfl ?_))
 refine CW.cd rfl (fun h1=> ?_) (fun h1=> ?_)
 ·
  refine CW.s1 rfl (CW.rr (RQ.ss ?_))
  exact RQ.pp (res2 rfl rfl rfl) (Split.nn _) ⟨rfl,rfl,rfl⟩
 ·
  have h1: ¬n < 1:=by simpa using h1
  have hb:=all_bad k hk n (by unfold okSteps;omega)
  refine CW.sn (CW.sr (RL.lW isAgg31 sizeOf31 rfl mQ (by first | rfl | assumption | (simp only [List.length_map];assumption) | (simp only [List.length_map,List.length_replicate,hk];done) | (simp;done)) ?_))
  refine RL.p rfl (RL.vq (hb) call77 rfl ?_)
  refine RL.q rfl (RL.p rfl (RL.qn rfl (CW.ok [6,7] rfl (CW.sr (RL.p rfl (RL.vq (rev_none) call78 rfl ?_))))))
  refine RL.ns (CW.sr (RL.q rfl (RL.qn rfl (CW.ok [4,5] rfl (CW.rr ?_)))))
  exact RQ.pp (res2 rfl rfl rfl) (Split.nn _) ⟨rfl,rfl,rfl⟩
def comV (k:List B8) (n:Int):List B8×Int:=if 1≤n∧n≤512 then (nextN k n.toNat,0) else (List.replicate 32 0,2)
theorem com_ok (k:List B8) {n:Nat} (h:okN n):comV k n=(nextN k n,0):=by
 unfold okN at h
 rw [comV,if_pos h];simp
theorem com_no (k:List B8) {n:Int} (h: ¬okN n):comV k n=(List.replicate 32 0,2):=if_neg h
abbrev ComV (r:List B8×Int):Value:= .tuple #[.agg (bytes r.1).toArray, .int .i64 r.2]
theorem revT_snoc {k:List B8} {n j:Nat} (hj:j≤n):flatK ((chainL k (n+1)).reverse.take j)++bytes (nextN k (n - j))=flatK ((chainL k (n+1)).reverse.take (j+1)):=by
 have:(chainL k (n+1)).reverse[j]? =some (nextN k (n - j)):=by
  rw [List.getElem?_reverse (by rw [chainL_len];omega),chainL_len,show n+1 - 1 - j=n - j by omega,chainL_get _ zb]
 rw [List.take_add_one,this];simp [flatK]
theorem rkeys_ok (k:List B8) (hk:k.length=32) (n:Nat) (hn:okN n):Spc prog 39 #[.agg (bytes k).toArray, .int .i64 (n:Int)] [] [] (KeysR k n):=by
 unfold okN at hn
 refine Spc.en func39 rfl rfl (fun w0 hw0=> ?_)
 refine CW.sg [0] [] (RL.box rfl ?_)
 intro b1
 refine RL.qn rfl (CW.ss (CW.sr (RL.q rfl (RL.p rfl ?_))))
 apply RL.orB (d:=12) (dp:=15) (l':=(Sq.of [])) rfl (sK [1,2,4,5] rfl)
 ·
  intro hb3 K3
  refine RL.q rfl (RL.p rfl ?_)
  exact K3 _ (.cons rfl (sK [1,2,4,5] rfl))
 ·
  intro hb3 K3
  refine RL.q rfl (RL.p rfl ?_)
  exact K3 _ (.cons rfl (sK [1,2,4,5] rfl))
 refine RL.ns (CW.cF rfl (zp) ?_)
 refine CW.sn (CW.sg [2] [] (RL.lW isAgg31 sizeOf31 rfl mQ (by first | rfl | assumption | (simp only [List.length_map];assumption) | (simp only [List.length_map,List.length_replicate,hk];done) | (simp;done)) ?_))
 refine RL.p rfl (RL.cq (rall_ok k hk n zb) call84 rfl (.inl rfl) ?_)
 rintro _ _ _ ⟨b,cap,rfl,rfl,rfl⟩
 refine RL.q rfl (RL.p rfl (RL.qn rfl (CW.ok [1,6] rfl (CW.sg [0] [] (RL.buildOwn [] runUnderlying89 sizeOf31 zeroValue31 rfl rfl zc zc rfl zc rfl ?_)))))
 intro b2
 refine RL.pn rfl (CW.ss (CW.s1 rfl (CW.bb ?_)))
 refine CW.loop (γ:=Nat×Option Nat×Nat) (fun g=> g.1≤n+1∧(g.1=0∨g.2.1.isSome=true)) (fun g=> [(1, .int .i64 (n:Int)),(6,slO (some b) (n+1) cap),(8,slO g.2.1 g.1 g.2.2),(9, .int .i64 ((n:Int) - g.1))]) (fun _=> [])
  (fun g=> [own g.2.1 g.2.2 31 32 g.1 (flatK ((chainL k (n+1)).reverse.take g.1)),own (some b) cap 31 32 (n+1) (flatK (chainL k (n+1)))]) (fun g=> n+1 - g.1) (0,_,_) ⟨zb, .inl rfl⟩ (.cons rfl (.cons rfl (.cons rfl (.cons (by simp;rfl) .nil)))) wE ?_
 rintro ⟨j,ob,c⟩ ⟨hj,hob⟩
 dsimp only at hj hob ⊢
 refine CW.ss (CW.s1 rfl ?_)
 refine CW.cd rfl (fun hlt=> ?_) (fun hlt=> ?_)
 ·
  have hlt:j≤n:=by simp at hlt;omega
  have hx:=chainL_get k (show n - j < n+1 by omega)
  have hL:=chainL_all hk (n+1)
  have hxl:=nextN_len hk (n - j)
  refine CW.sn (CW.ss (CW.bb (CW.rn (ef:= [5,6]) (bk:= [6]) (RL.q rfl (RL.p rfl (RL.tt (d:=30) (v':= .int .i64 ((n - j:Nat):Int)) rfl (by congr 1;omega) ?_))))))
  refine RL.ix (j:=n - j) runUnderlying89 sizeOf31 rfl zb ?_
  refine RL.ld (vs:=bytes (nextN k (n - j))) isAgg31 (by rw [List.length_map,hxl];exact sizeOf31) rfl (own_rds (f:=bytes) mQ hx (fun z hz=> by rw [List.length_map];exact hL z hz)) ?_
  refine RL.buildOwn (bytes (nextN k (n - j))) runUnderlying89 sizeOf31 zeroValue31 rfl rfl zc zc (by rw [List.length_map];exact hxl) zc (qP rfl (qP rfl (qP rfl (fill_one rfl (by simp [hxl]))))) ?_
  intro oq
  refine RL.appendq el_89 rfl ?_
  intro ob1 cap1 ho1
  refine RL.p rfl (RL.ee (NQ.bb (NQ.ss (CW.ok [1,6,8,9] rfl (CW.rg (RL.p rfl (RL.bx rfl (wrapV_i64 zb zb) ?_)))))))
  refine RL.p rfl (RL.ee ?_)
  refine NQ.rr (g:=(j,ob,c)) (j+1,ob1,cap1) ⟨zb, .inr (ho1.resolve_left zb)⟩ (by show n+1 - (j+1) < n+1 - j;omega) (.cons rfl (.cons rfl (.cons rfl (.cons (by show some (Value.int .i64 ((n:Int) - j - 1))=some (Value.int .i64 ((n:Int) - ((j+1:Nat):Int)));congr 2;omega) .nil)))) (fun _ h=> ?_)
  rw [own_is (ob:=ob1) (n':=j+1) (xs':=flatK ((chainL k (n+1)).reverse.take (j+1))) rfl (revT_snoc hlt)] at h
  exact h.rea (fun _ h=> h) rE
 ·
  have hin:j=n+1:=by simp at hlt;omega
  subst hin
  obtain ⟨a,rfl⟩:∃a,ob=some a:=by
   cases ob with
   | none=> simp at hob
   | some a=> exact ⟨a,rfl⟩
  refine CW.xx (XQ.ss (XQ.ss (XQ.hh (NQ.ss (CW.sr (RL.p rfl (RL.qn rfl (CW.ok [4,5] rfl (CW.rr ?_)))))))))
  rw [List.take_of_length_le (by rw [List.length_reverse,chainL_len];exact Nat.le_refl _)]
  exact RQ.pp (res2 rfl rfl rfl) (.keep (.drop .nil)) ⟨a,c,rfl,rfl,rfl⟩
theorem rkeys_bad (k:List B8) (hk:k.length=32) (n:Int) (hn: ¬okN n):Spc prog 39 #[.agg (bytes k).toArray, .int .i64 n] [] [] (Is (.tuple #[.slice none 0 0, .int .i64 2])):=by
 unfold okN at hn
 refine Spc.en func39 rfl rfl (fun w0 hw0=> ?_)
 refine CW.sg [0] [] (RL.box rfl ?_)
 intro b1
 refine RL.qn rfl (CW.ss (CW.sr (RL.q rfl (RL.p rfl ?_))))
 apply RL.orB (d:=12) (dp:=15) (l':=(Sq.of [])) rfl (sK [1,2,4,5] rfl)
 ·
  intro hb3 K3
  refine RL.q rfl (RL.p rfl ?_)
  exact K3 _ (.cons rfl (sK [1,2,4,5] rfl))
 ·
  intro hb3 K3
  refine RL.q rfl (RL.p rfl ?_)
  exact K3 _ (.cons rfl (sK [1,2,4,5] rfl))
 refine RL.ns (CW.cT rfl (zp) ?_)
 refine CW.s1 rfl (CW.rr (RQ.ss ?_))
 exact RQ.pp (res2 rfl rfl rfl) (Split.nn _) ⟨rfl,rfl,rfl⟩
theorem rcom_ok (k:List B8) (hk:k.length=32) (n:Nat) (hn:okN n):Spc prog 27 #[.agg (bytes k).toArray, .int .i64 (n:Int)] [] [] (Is (ComV (comV k n))):=by
 rw [com_ok k hn]
 have hxl:=nextN_len hk n
 refine Spc.en func27 rfl rfl (fun w0 hw0=> ?_)
 refine CW.sg [0,1] [] (RL.box rfl ?_)
 intro b1
 refine RL.al (cs:=List.replicate 32 (U8 0#8)) zeroValue31 rfl ?_
 intro b2
 refine RL.pn rfl (CW.sg [2] [] (RL.lW isAgg31 sizeOf31 rfl mQ (by first | rfl | assumption | (simp only [List.length_map];assumption) | (simp only [List.length_map,List.length_replicate,hk];done) | (simp;done)) ?_))
 refine RL.p rfl (RL.cq (rkeys_ok k hk n hn) call39 rfl (.inl rfl) ?_)
 rintro _ _ _ ⟨b,cap,rfl,rfl,rfl⟩
 have hx:=chainR_get k n
 have hL:=chainR_all hk (n+1)
 generalize (chainL k (n+1)).reverse=R at hx hL
 refine RL.q rfl (RL.p rfl (RL.qn rfl (CW.ok [4,6,7] rfl (CW.ss (CW.sr (RL.q rfl (RL.ee ?_)))))))
 refine NQ.ss (CW.cF rfl (rfl) (CW.sn (CW.sg [3] [3] (RL.p rfl (RL.ix (j:=0) runUnderlying89 sizeOf31 rfl zb ?_)))))
 refine RL.ld (vs:=bytes (nextN k n)) isAgg31 (by rw [List.length_map,hxl];exact sizeOf31) rfl (own_rds (f:=bytes) mQ hx (fun z hz=> by rw [List.length_map];exact hL z hz)) ?_
 refine RL.sW sizeOf31 rfl (ones_map one8 _) uE (by rw [List.length_map];exact hxl) rfl ?_
 refine RL.pn rfl (CW.ok [4,5] rfl (CW.rr ?_))
 exact RQ.pp (resWT rfl rfl rfl isAgg31 sizeOf31 mQ (by rw [List.length_map];exact hxl)) (Split.nn _) ⟨rfl,rfl,rfl⟩
theorem rcom_bad (k:List B8) (hk:k.length=32) (n:Int) (hn: ¬okN n):Spc prog 27 #[.agg (bytes k).toArray, .int .i64 n] [] [] (Is (ComV (comV k n))):=by
 rw [com_no k hn]
 refine Spc.en func27 rfl rfl (fun w0 hw0=> ?_)
 refine CW.sg [0,1] [] (RL.box rfl ?_)
 intro b1
 refine RL.al (cs:=List.replicate 32 (U8 0#8)) zeroValue31 rfl ?_
 intro b2
 refine RL.pn rfl (CW.sr (RL.lW isAgg31 sizeOf31 rfl mQ (by first | rfl | assumption | (simp only [List.length_map];assumption) | (simp only [List.length_map,List.length_replicate,hk];done) | (simp;done)) ?_))
 refine RL.p rfl (RL.vq (rkeys_bad k hk n hn) call39 rfl ?_)
 refine RL.q rfl (RL.p rfl (RL.qn rfl (CW.ok [4,6,7] rfl (CW.ss (CW.sr (RL.q rfl (RL.ee ?_)))))))
 refine NQ.ss (CW.cT rfl (rfl) (CW.sg [2] [2] (RL.buildA (List.replicate 32 (U8 0#8)) zeroValue31 runUnderlying31 sizeOf5 rfl (RL.p rfl (RL.sq sizeOf31 rfl ?_)))))
 refine RL.pn rfl (CW.rr (RQ.ss ?_))
 exact RQ.pp (resWT rfl rfl rfl isAgg31 sizeOf31 mQ rfl) (Split.nn _) ⟨rfl,rfl,rfl⟩
theorem rcom_any (k:List B8) (hk:k.length=32) (n:Int):Spc prog 27 #[.agg (bytes k).toArray, .int .i64 n] [] [] (Is (ComV (comV k n))):=by
 by_cases h:okN n
 ·have h':=h
  unfold okN at h'
  obtain ⟨m,rfl⟩:∃m:Nat,n=(m:Int):=⟨n.toNat,zb⟩
  exact rcom_ok k hk m h
 ·exact rcom_bad k hk n h
def lastK (seed:B8):List B8:=seed::77#8::List.replicate 30 0#8
theorem lastK_len (seed:B8):(lastK seed).length=32:=by simp [lastK]
def cfgK (seed:B8):List B8:=nextN (lastK seed) 24
theorem cfgK_len (seed:B8):(cfgK seed).length=32:=nextN_len (lastK_len seed) 24
def cfgC (seed:B8):Cf:=⟨0,0,42949672960,4194304,⟨0,10,2,3⟩,cfgK seed,3,40,15,8,plainL seed [] 6⟩
theorem cfgC_fit (seed:B8):(cfgC seed).Fit:=⟨cfgK_len seed,plainL_fit _ _ _⟩
theorem cfgC_len (seed:B8):(cfgC seed).L.length=6:=rfl
theorem cf_seg (c:Cf) (sl:Value):c.cells sl= [sl, .int .i64 c.g0, .int .i64 c.g1, .int .i64 c.g2, .int .i64 c.dr]++([.int .i64 c.sc.st, .int .i64 c.sc.ln, .int .i64 c.sc.lg, .int .i64 c.sc.of]++(bytes c.cm++c.tl)):=rfl
theorem set_sc (c:Cf) (sl:Value) (a b d e:Int):spl (c.cells sl) (0+5) [.int .i64 a, .int .i64 b, .int .i64 d, .int .i64 e]=Cf.cells ⟨c.g0,c.g1,c.g2,c.dr,⟨a,b,d,e⟩,c.cm,c.mo,c.ti,c.gr,c.sd,c.L⟩ sl:=by
 rw [cf_seg,cf_seg];exact seg_spl rfl rfl
theorem set_cm (c:Cf) (sl:Value) {k:List B8} (h:c.cm.length=32) (hk:k.length=32):spl (c.cells sl) (0+9) (bytes k)=Cf.cells ⟨c.g0,c.g1,c.g2,c.dr,c.sc,k,c.mo,c.ti,c.gr,c.sd,c.L⟩ sl:=by
 have e:∀(x:Cf),x.cells sl= [sl, .int .i64 x.g0, .int .i64 x.g1, .int .i64 x.g2, .int .i64 x.dr, .int .i64 x.sc.st, .int .i64 x.sc.ln, .int .i64 x.sc.lg, .int .i64 x.sc.of]++(bytes x.cm++x.tl):=fun _=> rfl
 rw [e,e];exact seg_spl rfl (by simp [h,hk])
theorem cf_pre (c:Cf) (sl:Value):c.cells sl=(sl:: .int .i64 c.g0:: .int .i64 c.g1:: .int .i64 c.g2:: .int .i64 c.dr:: .int .i64 c.sc.st:: .int .i64 c.sc.ln:: .int .i64 c.sc.lg:: .int .i64 c.sc.of::bytes c.cm)++c.tl:=rfl
theorem set_cmo (c:Cf) (sl:Value) (h:c.cm.length=32) (v:Int):spl (c.cells sl) (0+41) [.int .i64 v]=Cf.cells ⟨c.g0,c.g1,c.g2,c.dr,c.sc,c.cm,v,c.ti,c.gr,c.sd,c.L⟩ sl:=by
 have e:∀v:Int,Cf.tl ⟨c.g0,c.g1,c.g2,c.dr,c.sc,c.cm,v,c.ti,c.gr,c.sd,c.L⟩= [.int .i64 v]++ [.int .i64 c.ti, .int .i64 c.gr, .int .u64 c.sd]:=fun _=> rfl
 rw [cf_pre,cf_pre,show c.tl= [.int .i64 c.mo]++ [.int .i64 c.ti, .int .i64 c.gr, .int .u64 c.sd] from rfl,e];exact seg_spl (by simp [h]) rfl
theorem set_cti (c:Cf) (sl:Value) (h:c.cm.length=32) (v:Int):spl (c.cells sl) (0+42) [.int .i64 v]=Cf.cells ⟨c.g0,c.g1,c.g2,c.dr,c.sc,c.cm,c.mo,v,c.gr,c.sd,c.L⟩ sl:=by
 have e:∀v:Int,Cf.cells ⟨c.g0,c.g1,c.g2,c.dr,c.sc,c.cm,c.mo,v,c.gr,c.sd,c.L⟩ sl=(sl:: .int .i64 c.g0:: .int .i64 c.g1:: .int .i64 c.g2:: .int .i64 c.dr:: .int .i64 c.sc.st:: .int .i64 c.sc.ln:: .int .i64 c.sc.lg:: .int .i64 c.sc.of::(bytes c.cm++ [.int .i64 c.mo]))++([.int .i64 v]++ [.int .i64 c.gr, .int .u64 c.sd]):=fun _=> by simp [Cf.cells,Cf.tl]
 rw [e,e];exact seg_spl (by simp [h]) rfl
theorem set_cgr (c:Cf) (sl:Value) (h:c.cm.length=32) (v:Int):spl (c.cells sl) (0+43) [.int .i64 v]=Cf.cells ⟨c.g0,c.g1,c.g2,c.dr,c.sc,c.cm,c.mo,c.ti,v,c.sd,c.L⟩ sl:=by
 have e:∀v:Int,Cf.cells ⟨c.g0,c.g1,c.g2,c.dr,c.sc,c.cm,c.mo,c.ti,v,c.sd,c.L⟩ sl=(sl:: .int .i64 c.g0:: .int .i64 c.g1:: .int .i64 c.g2:: .int .i64 c.dr:: .int .i64 c.sc.st:: .int .i64 c.sc.ln:: .int .i64 c.sc.lg:: .int .i64 c.sc.of::(bytes c.cm++ [.int .i64 c.mo, .int .i64 c.ti]))++([.int .i64 v]++ [.int .u64 c.sd]):=fun _=> by simp [Cf.cells,Cf.tl]
 rw [e,e];exact seg_spl (by simp [h]) rfl
theorem set_csd (c:Cf) (sl:Value) (h:c.cm.length=32) (v:Int):spl (c.cells sl) (0+44) [.int .u64 v]=Cf.cells ⟨c.g0,c.g1,c.g2,c.dr,c.sc,c.cm,c.mo,c.ti,c.gr,v,c.L⟩ sl:=by
 have e:∀v:Int,Cf.cells ⟨c.g0,c.g1,c.g2,c.dr,c.sc,c.cm,c.mo,c.ti,c.gr,v,c.L⟩ sl=(sl:: .int .i64 c.g0:: .int .i64 c.g1:: .int .i64 c.g2:: .int .i64 c.dr:: .int .i64 c.sc.st:: .int .i64 c.sc.ln:: .int .i64 c.sc.lg:: .int .i64 c.sc.of::(bytes c.cm++ [.int .i64 c.mo, .int .i64 c.ti, .int .i64 c.gr]))++([.int .u64 v]++ []):=fun _=> by simp [Cf.cells,Cf.tl]
 rw [e,e];exact seg_spl (by simp [h]) rfl
theorem last_any (seed:B8):Spc prog 9 #[U8 seed] [] [] (Is (.agg (bytes (lastK seed)).toArray)):=by
 refine Spc.en func9 rfl rfl (fun w0 hw0=> ?_)
 refine CW.sg [0] [] (RL.al (cs:=List.replicate 32 (U8 0#8)) zeroValue31 rfl ?_)
 intro b1
 refine RL.ns (CW.sg [2] [2] (RL.p rfl (RL.buildA (bytes (lastK seed)) zeroValue31 runUnderlying31 sizeOf5 rfl (RL.sW sizeOf31 rfl (ones_map one8 _) uE rfl rfl ?_))))
 refine RL.ns (CW.rr ?_)
 exact RQ.pp (resW rfl rfl isAgg31 sizeOf31 mQ rfl) (Split.nn _) ⟨rfl,rfl,rfl⟩
theorem config_nil (seed:B8):Spc prog 7 #[U8 seed, .slice none 0 0] [] [] (CfR 122 (cfgC seed)):=by
 have hl45:∀(c:Cf) (sl:Value),c.cm.length=32→(c.cells sl).length=45:=fun c sl h=> cf_len h sl
 have hcom:=rcom_any (lastK seed) (lastK_len seed) 24
 rw [show (24:Int)=((24:Nat):Int) from rfl,com_ok (lastK seed) (show okN ((24:Nat):Int) by unfold okN;omega)] at hcom
 refine Spc.en func7 rfl rfl (fun w0 hw0=> ?_)
 refine CW.sg [0] [] (RL.al zeroValue34 rfl ?_)
 intro b1
 refine RL.ns (CW.sg [1,7,8,9,10] [7,10] (RL.p rfl (RL.buildOwn [] runUnderlying52 sizeOf3 zeroValue3 rfl rfl zc zc rfl zc rfl ?_)))
 intro b2
 refine RL.q rfl (RL.lenS runUnderlying52 rfl (RL.min rfl (RL.tt (d:=11) (v':= .int .i64 ((0:Nat):Int)) rfl rfl ?_)))
 refine RL.slice (lo:=0) (hi:=0) runUnderlying52 sizeOf3 rfl rfl rfl zb zb ?_
 refine RL.appendA (news:= []) el_52 rfl za (by intro _ _;exact ⟨rfl,fun _=> rfl,fun a h=> by simp at h⟩) zm zd zd ?_
 intro ob1 cap1 ho1
 refine RL.cc (splain_any seed (ob1.map fun b=> ⟨b,0,none⟩) cap1 0 [] rfl zb) call33 rfl pE (.own mQ .nil) (.inl rfl) ?_
 rintro _ _ _ ⟨ob,cp,rfl,rfl,rfl⟩
 refine RL.al zeroValue34 rfl ?_
 intro b3
 refine RL.sW sizeOf34 rfl (cf_ones _ rfl) uE (hl45 _ _ rfl) rfl ?_
 refine RL.ns (CW.ok [0,4,5] rfl (CW.sg [2] [2] (RL.bS [_,_,_,_] zeroValue29 pl_29 rfl (RL.fa fa_34_3 rfl (RL.sX (vs:= [_,_,_,_]) (set_sc (plainC seed []) _ 0 10 2 3) sizeOf29 rfl rfl uE (by rw [hl45 _ _ rfl];decide) ?_)))))
 refine RL.ns (CW.sg [7] [7] (RL.p rfl (RL.vq (last_any seed) call9 rfl ?_)))
 refine RL.vq (hcom) call27 rfl ?_
 refine RL.q rfl (RL.p rfl (RL.fa fa_34_4 rfl (RL.sX (vs:=bytes (cfgK seed)) (set_cm ⟨0,0,42949672960,4194304,⟨0,10,2,3⟩,List.replicate 32 0,5,500,100,64,plainL seed [] 6⟩ _ rfl (cfgK_len seed)) (by rw [List.length_map,cfgK_len];exact sizeOf31) rfl (ones_map one8 _) uE (by rw [hl45 _ _ rfl,List.length_map,cfgK_len];decide) ?_)))
 refine RL.ns (CW.ok [4,5] rfl (CW.sg [1,3,5,7] [1,3,5,7] (RL.fa fa_34_8 rfl (RL.sX (vs:= [_]) (set_csd ⟨0,0,42949672960,4194304,⟨0,10,2,3⟩,cfgK seed,5,500,100,64,plainL seed [] 6⟩ _ (cfgK_len seed) 8) sizeOf32 rfl rfl uE (by rw [hl45 _ _ (cfgK_len seed)];decide) ?_))))
 refine RL.fa fa_34_5 rfl (RL.sX (vs:= [_]) (set_cmo ⟨0,0,42949672960,4194304,⟨0,10,2,3⟩,cfgK seed,5,500,100,8,plainL seed [] 6⟩ _ (cfgK_len seed) 3) sizeOf3 rfl rfl uE (by rw [hl45 _ _ (cfgK_len seed)];decide) ?_)
 refine RL.fa fa_34_6 rfl (RL.sX (vs:= [_]) (set_cti ⟨0,0,42949672960,4194304,⟨0,10,2,3⟩,cfgK seed,3,500,100,8,plainL seed [] 6⟩ _ (cfgK_len seed) 40) sizeOf3 rfl rfl uE (by rw [hl45 _ _ (cfgK_len seed)];decide) ?_)
 refine RL.fa fa_34_7 rfl (RL.sX (vs:= [_]) (set_cgr ⟨0,0,42949672960,4194304,⟨0,10,2,3⟩,cfgK seed,3,40,100,8,plainL seed [] 6⟩ _ (cfgK_len seed) 15) sizeOf3 rfl rfl uE (by rw [hl45 _ _ (cfgK_len seed)];decide) ?_)
 refine RL.ns (CW.sg [1] [1] (RL.lW isAgg34 sizeOf34 rfl mQ (hl45 _ _ (cfgK_len seed)) ?_))
 refine RL.sW sizeOf34 rfl (cf_ones _ rfl) uE (hl45 _ _ (cfgK_len seed)) rfl ?_
 refine RL.ns (CW.ok [4] rfl (CW.rr (RQ.rea (fun _ h=> h) (H':= [own ob cp 122 48 (cfgC seed).L.length ((cfgC seed).L.flatMap Sr.cells),cel b1 ((cfgC seed).cells (slO ob (cfgC seed).L.length cp)) 34]) rE ?_)))
 exact RQ.pp (resW rfl rfl isAgg34 sizeOf34 mQ (hl45 _ _ (cfgK_len seed))) (.keep (Split.nn _)) ⟨ob,cp,rfl,rfl,rfl⟩
end Go.Proofs.YtkineolcmdecjaaGreat
