/- Part 3 of the proof. -/
import Derived.Test.YthlchaldjekokaaGreatG2
import Derived.Sort.Row
import Derived.Sort.Grow
import Derived.Shelf.SlGeneric
import Derived.Shelf.SortM.Plain
import Derived.Shelf.SortM.SortNone
import Derived.Ground.SlgmProg
set_option linter.all false
namespace Go.Proofs.YthlchaldjekokaaGreat
open Go.PK
theorem tellN{ob:Option Nat}{cap sz n:Nat}{e:TypeId}{xs:List Value}{w:World}(h:(own ob cap e sz n xs).A w)(hn:n≠0):ob.isSome=true:=by
 cases ob with
 | none=>exact absurd h.2.1 hn
 | some b=>rfl
theorem rpad_any(p:Option Addr)(cap:Nat)(key:List B8)(hb:key.length≤1000000000)(x:B8):Spc Tryz.prog 303 #[.slice p key.length cap,U8 x] [sls p 1 key.length (bytes key)] [] (OwnB (ck key x)):=by
 refine Spc.enter Tryz.func303 (h:=?_);refine fun w0 hw0=>?_;refine go 7 ?_;refine ao [] (ho:=rfl) (h:=?_);intro b1;refine go 13 ?_;intro ob1 cap1 ho1;refine CW.cond rfl (fun hl=>?_) (fun hl=>?_)
 ·have hl:64<key.length:=by simp at hl;omega
  have hk:kk key=i8 key:=by rw[kk,if_pos hl]
  have hkl:(i8 key).length≤64:=by rw[bA];omega
  refine go 3 ?_;refine ab (rof_any p cap key hb) (h:=?_);refine RL.alloc (cs:=List.replicate 32 (U8 0#8)) (ho:=rfl) (h:=?_);intro b2;refine go 4 ?_;refine ao [] (ho:=rfl) (h:=?_);intro b3;refine go 7 ?_;intro ob2 cap2 ho2
  refine CW.loop (γ := Nat × Option Nat × Nat) (fun g => (i8 key).length + g.1 ≤ 64) (fun g => [(1, U8 x), (5, aE g.2.1 ((i8 key).length + g.1) g.2.2)]) (fun _ => [])
    (fun g => [own g.2.1 g.2.2 5 1 ((i8 key).length + g.1) (bytes ((i8 key) ++ List.replicate g.1 0#8))]) (fun g => 64 - g.1) (0, ob2, cap2) (by simpa using hkl) (.cons rfl (.cons ((by rw [bA]; rfl)) .nil))
    (fun w h => by
      rw [bE (ob := ob2) (n' := (i8 key).length + 0) (xs' := bytes ((i8 key) ++ List.replicate 0 0#8)) (by rw [bA]) (by simp)] at h
      exact h.rea (fun _ h => by cases h) rE) ?_
  rintro⟨j,ob,c⟩ hj;dsimp only at hj ⊢;refine go 8 ?_;refine CW.cond rfl (fun ht=>?_) (fun ht=>?_)
  ·refine go 5 ?_;refine ao [_] (ho:=rfl) (h:=?_);intro b4;refine go 4 ?_;intro ob3 cap3 ho3;have hlt:(i8 key).length+j<64:=by simp at ht;omega
   refine NQ.round (g:=(j,ob,c)) (j+1,ob3,cap3) (by show(i8 key).length+(j+1)≤64;omega) (by show 64-(j+1)<64-j;omega) (.cons rfl (.cons rfl .nil)) (fun w h=>?_);rw[bE (ob:=ob3) (n':=(i8 key).length+(j+1)) (xs':=bytes ((i8 key)++List.replicate (j+1) 0#8)) (by omega) (by simp[List.replicate_succ'];rfl)] at h;exact h.rea (fun _ h=>h) rE
  ·have hj64:(i8 key).length+j=64:=by simp at ht;omega
   have hpk:(i8 key)++List.replicate j 0#8=dR key:=by rw[dR,hk,show 64-(i8 key).length=j by omega]
   rw[hpk,hj64];refine aR (p:=ob.isSome=true) (fun w hC=>tellN (hC.s.h (own ob c 5 1 64 (bytes (dR key))) mQ) (by decide)) (fun hob=>?_)
   obtain⟨b,rfl⟩:∃b,ob=some b:=by
    cases ob with
    | none=>cases hob
    | some b=>exact⟨b,rfl⟩
   refine go 12 ?_;refine CW.loop (γ:=Nat) (fun j=>j≤64) (fun j=>[(1,U8 x),(5,aE (some b) 64 c),(7,.int .i64 (j:Int))]) (fun _=>[]) (fun j=>[own (some b) c 5 1 64 ((bytes (ck key x)).take j++(bytes (dR key)).drop j)]) (fun j=>64-j) 0 (by omega) (.cons rfl (.cons rfl (.cons rfl .nil))) (fun _ h=>h) ?_;clear ht hpk hj hj64;intro j hj;refine go 7 ?_;refine CW.cond rfl (fun hlt=>?_) (fun hlt=>?_)
   ·refine go 9 ?_;have hlt:j<64:=by simp at hlt;omega
    obtain⟨g1,g2⟩:=padB_get key x hlt;have hmx:((bytes (ck key x)).take j++(bytes (dR key)).drop j)[j*1]?=some (U8 ((dR key).getD j 0)):=by have:=get_mix (l1:=bytes (dR key)) (l2:=bytes (ck key x)) (n:=j) (by simp[bD];omega);rw[Nat.zero_add] at this;rw[this];exact g2
    refine aS (j:=j) (p:=⟨b,0,none⟩) (ho:=rfl) (hlt:=hlt) (h:=go 2 ?_);refine RL.bv8 (a:=_) (b:=_) xor8 rfl rfl rfl rfl rfl (aS (j:=j) (p:=⟨b,0,none⟩) (ho:=rfl) (hlt:=hlt) (h:=?_));have hst:bP ((bytes (ck key x)).take j++(bytes (dR key)).drop j) (j*1) [U8 ((dR key).getD j 0^^^x)]=(bytes (ck key x)).take (j+1)++(bytes (dR key)).drop (j+1):=by have:=iU (l1:=bytes (dR key)) (l2:=bytes (ck key x)) (n:=j) (by simp[bD,dt]) g1;rwa[Nat.zero_add] at this
    refine gv (off:=j*1) (vs:=[_]) hst KS5.h rfl rfl rfl rfl rfl rfl rfl rfl rfl (by simp[bD,dt];omega) uE ?_;refine go 5 ?_;refine ap rfl (ad (by omega) (by omega)) ?_;refine go 2 ?_;exact NQ.round (g:=j) (j+1) hlt (by omega) (.cons rfl (.cons rfl (.cons rfl .nil))) (fun _ h=>h)
   ·refine go 12 ?_;have hj64:j=64:=by simp at hlt;omega
    subst hj64;rw[List.take_of_length_le (by simp[bD]),List.drop_of_length_le (by simp[dt]),List.append_nil];exact RQ.post (az rfl rfl) (.keep .nil) ⟨_,_,by rw[bD],rfl,by rw[bD],.inr rfl⟩
 ·have hl: ¬64<key.length:=by simp at hl;omega
  have hk:kk key=key:=by rw[kk,if_neg hl]
  have hkl:key.length≤64:=by omega
  rw[Nat.zero_add];refine go 4 ?_
  refine CW.loop (γ := Nat × Option Nat × Nat) (fun g => key.length + g.1 ≤ 64) (fun g => [(1, U8 x), (5, aE g.2.1 (key.length + g.1) g.2.2)]) (fun _ => [])
    (fun g => [own g.2.1 g.2.2 5 1 (key.length + g.1) (bytes (key ++ List.replicate g.1 0#8))]) (fun g => 64 - g.1) (0, ob1, cap1) (by simpa using hkl) (.cons rfl (.cons (rfl) .nil))
    (fun w h => by
      rw [bE (ob := ob1) (n' := key.length + 0) (xs' := bytes (key ++ List.replicate 0 0#8)) (by omega) (by simp)] at h
      exact h.rea (fun _ h => by cases h) rE) ?_
  rintro⟨j,ob,c⟩ hj;dsimp only at hj ⊢;refine go 8 ?_;refine CW.cond rfl (fun ht=>?_) (fun ht=>?_)
  ·refine go 5 ?_;refine ao [_] (ho:=rfl) (h:=?_);intro b2;refine go 4 ?_;intro ob2 cap2 ho2;have hlt:key.length+j<64:=by simp at ht;omega
   refine NQ.round (g:=(j,ob,c)) (j+1,ob2,cap2) (by show key.length+(j+1)≤64;omega) (by show 64-(j+1)<64-j;omega) (.cons rfl (.cons rfl .nil)) (fun w h=>?_);rw[bE (ob:=ob2) (n':=key.length+(j+1)) (xs':=bytes (key++List.replicate (j+1) 0#8)) (by omega) (by simp[List.replicate_succ'];rfl)] at h;exact h.rea (fun _ h=>h) rE
  ·have hj64:key.length+j=64:=by simp at ht;omega
   have hpk:key++List.replicate j 0#8=dR key:=by rw[dR,hk,show 64-key.length=j by omega]
   rw[hpk,hj64];refine aR (p:=ob.isSome=true) (fun w hC=>tellN (hC.s.h (own ob c 5 1 64 (bytes (dR key))) mQ) (by decide)) (fun hob=>?_)
   obtain⟨b,rfl⟩:∃b,ob=some b:=by
    cases ob with
    | none=>cases hob
    | some b=>exact⟨b,rfl⟩
   refine go 12 ?_;refine CW.loop (γ:=Nat) (fun j=>j≤64) (fun j=>[(1,U8 x),(5,aE (some b) 64 c),(7,.int .i64 (j:Int))]) (fun _=>[]) (fun j=>[own (some b) c 5 1 64 ((bytes (ck key x)).take j++(bytes (dR key)).drop j)]) (fun j=>64-j) 0 (by omega) (.cons rfl (.cons rfl (.cons rfl .nil))) (fun _ h=>h) ?_;clear ht hpk hj hj64;intro j hj;refine go 7 ?_;refine CW.cond rfl (fun hlt=>?_) (fun hlt=>?_)
   ·refine go 9 ?_;have hlt:j<64:=by simp at hlt;omega
    obtain⟨g1,g2⟩:=padB_get key x hlt;have hmx:((bytes (ck key x)).take j++(bytes (dR key)).drop j)[j*1]?=some (U8 ((dR key).getD j 0)):=by have:=get_mix (l1:=bytes (dR key)) (l2:=bytes (ck key x)) (n:=j) (by simp[bD];omega);rw[Nat.zero_add] at this;rw[this];exact g2
    refine aS (j:=j) (p:=⟨b,0,none⟩) (ho:=rfl) (hlt:=hlt) (h:=go 2 ?_);refine RL.bv8 (a:=_) (b:=_) xor8 rfl rfl rfl rfl rfl (aS (j:=j) (p:=⟨b,0,none⟩) (ho:=rfl) (hlt:=hlt) (h:=?_));have hst:bP ((bytes (ck key x)).take j++(bytes (dR key)).drop j) (j*1) [U8 ((dR key).getD j 0^^^x)]=(bytes (ck key x)).take (j+1)++(bytes (dR key)).drop (j+1):=by have:=iU (l1:=bytes (dR key)) (l2:=bytes (ck key x)) (n:=j) (by simp[bD,dt]) g1;rwa[Nat.zero_add] at this
    refine gv (off:=j*1) (vs:=[_]) hst KS5.h rfl rfl rfl rfl rfl rfl rfl rfl rfl (by simp[bD,dt];omega) uE ?_;refine go 5 ?_;refine ap rfl (ad (by omega) (by omega)) ?_;refine go 2 ?_;exact NQ.round (g:=j) (j+1) hlt (by omega) (.cons rfl (.cons rfl (.cons rfl .nil))) (fun _ h=>h)
   ·refine go 12 ?_;have hj64:j=64:=by simp at hlt;omega
    subst hj64;rw[List.take_of_length_le (by simp[bD]),List.drop_of_length_le (by simp[dt]),List.append_nil];exact RQ.post (az rfl rfl) (.keep .nil) ⟨_,_,by rw[bD],rfl,by rw[bD],.inr rfl⟩
def d7(key b:List B8):List B8:=(eC key b).take 16
theorem dS(key b:List B8):(d7 key b).length=16:=by simp[d7,ie]
theorem bytes_take(l:List B8)(n:Nat):(bytes l).take n=bytes (l.take n):=(List.map_take (f:=U8)).symm
theorem rcode_any(p:Option Addr)(kcap:Nat)(key:List B8)(hkb:key.length≤1000000000)(q:Option Addr)(cap:Nat)(b:List B8)(hb:b.length≤100000000):Spc Tryz.prog 226 #[.slice p key.length kcap,.slice q b.length cap] [sls p 1 key.length (bytes key),sls q 1 b.length (bytes b)] [] (Is (.agg (bytes (eC key b)).toArray)):=by have l54:=bD key 54#8;have l92:=bD key 92#8;refine Spc.enter Tryz.func226 (h:=?_);refine fun w0 hw0=>?_;refine go 2 ?_;refine RL.alloc (cs:=List.replicate 32 (U8 0#8)) (ho:=rfl) (h:=?_);intro b1;refine go 5 ?_;refine RL.call (rpad_any p kcap key hkb 54#8) (hl:=.inI mQ .nil) (hb:=.inl rfl) (h:=?_);rintro _ _ _ ⟨obA,cA,rfl,rfl,rfl,hoA⟩;refine go 2 ?_;intro ob1 cap1 ho1;rw[bE (ob:=ob1) (n':=(ck key 54#8++b).length) (xs':=bytes (ck key 54#8++b)) (List.length_append).symm (List.map_append (f:=U8)).symm,←List.length_append];refine ar (rof_any (ob1.map fun b=>⟨b,0,none⟩) cap1 (ck key 54#8++b) (by rw[List.length_append];omega)) (hl:=Lend.own mQ .nil) (h:=?_);refine RL.alloc (cs:=List.replicate 32 (U8 0#8)) (ho:=rfl) (h:=?_);intro b2;refine go 4 ?_;refine ae (Sq.of [0,2,1,3,4,5]) [1,3,5] [3,5] [0,2] (h:=?_);refine go 2 ?_;refine RL.call (rpad_any p kcap key hkb 92#8) (hl:=.inI mQ .nil) (hb:=.inl rfl) (h:=?_);rintro _ _ _ ⟨obB,cB,rfl,rfl,rfl,hoB⟩;refine go 1 ?_;intro ob2 cap2 ho2;rw[bE (ob:=ob2) (n':=(ck key 92#8++i8 (ck key 54#8++b)).length) (xs':=bytes (ck key 92#8++i8 (ck key 54#8++b))) (by rw[List.length_append,bA]) (List.map_append (f:=U8)).symm,show(ck key 92#8).length+32=(ck key 92#8++i8 (ck key 54#8++b)).length by rw[List.length_append,bA]];refine ar (rof_any (ob2.map fun b=>⟨b,0,none⟩) cap2 (ck key 92#8++i8 (ck key 54#8++b)) (by rw[List.length_append,bA];omega)) (hl:=Lend.own mQ .nil) (h:=?_);refine go 4 ?_;exact RQ.post (cU rfl rfl KA186.h KS186.h mQ lQ) (aa _) ⟨rfl,rfl,rfl⟩
theorem rcode_n(p:Option Addr)(n kcap:Nat)(key:List B8)(hk:key.length=n)(hkb:n≤1000000000)(q:Option Addr)(m cap:Nat)(b:List B8)(hm:b.length=m)(hb:m≤100000000):Spc Tryz.prog 226 #[.slice p n kcap,.slice q m cap] [sls p 1 n (bytes key),sls q 1 m (bytes b)] [] (Is (.agg (bytes (eC key b)).toArray)):=by subst hk;subst hm;exact rcode_any p kcap key hkb q cap b hb
theorem tag_any(k:List B8)(hk:k.length=32)(pp:Option Addr)(qn cap:Nat)(qs:List Part)(hq:qs.length=qn)(hn:qn≤1000000)(hb:(aM qs).length≤100000000):Spc Tryz.prog 370 #[.agg (bytes k).toArray,.slice pp qn cap] (sls pp 1 qn (qs.map Part.v)::qs.map Part.i) [] (Is (.agg (bytes (d7 k (aM qs))).toArray)):=by refine Spc.enter Tryz.func370 (h:=?_);refine fun w0 hw0=>?_;refine go 10 ?_;intro b1 b2;refine ar (code_n (some ⟨b1,0,none⟩) 32 32 k hk (by decide) pp qn cap qs hq hn hb) Tryz.call429 rfl rfl rfl rfl (Lend.all mQ (by simp[hk]) (Lend.many (fun _ h=>h))) ?_;refine RL.alloc (cs:=List.replicate 32 (U8 0#8)) (ho:=rfl) (h:=?_);intro b3;refine go 5 ?_;refine RL.sliceA (lo:=0) (hi:=16) (ho:=rfl) (hw:=rfl) (hN:=rfl) (hx:=rfl) (hl:=rfl) (hh:=rfl) (h:=?_);refine iC KU149.h rfl rfl rfl rfl (by first|decide|omega) ?_;refine RL.loadP (off:=0) KA149.h KS149.h rfl rfl rfl rfl (cs:=bytes (eC k (aM qs))) mQ (by simp[ie]) ?_;refine go 4 ?_;rw[show((bytes (eC k (aM qs))).drop 0).take 16=bytes (d7 k (aM qs)) by rw[List.drop_zero,d7,bytes_take]];exact RQ.post (cU rfl rfl KA149.h KS149.h mQ lQ) (aa _) ⟨rfl,rfl,rfl⟩
theorem rtag_any(k:List B8)(hk:k.length=32)(q:Option Addr)(m cap:Nat)(b:List B8)(hm:b.length=m)(hb:m≤100000000):Spc Tryz.prog 150 #[.agg (bytes k).toArray,.slice q m cap] [sls q 1 m (bytes b)] [] (Is (.agg (bytes (d7 k b)).toArray)):=by
 refine Spc.enter Tryz.func150 (h:=?_);refine fun w0 hw0=>?_;refine go 10 ?_;intro b1 b2;refine ar (rcode_n (some ⟨b1,0,none⟩) 32 32 k hk (by decide) q m cap b hm hb) Tryz.call226 rfl rfl rfl rfl (Lend.all mQ (by simp[hk]) (Lend.many (fun _ h=>h))) ?_;refine RL.alloc (cs:=List.replicate 32 (U8 0#8)) (ho:=rfl) (h:=?_);intro b3;refine go 5 ?_;refine bi _ (ho:=rfl) (h:=go 11 ?_);intro b4;refine CW.loop (γ:=Nat) (fun i=>i≤16) (fun i=>[(4,.pointer (some ⟨b2,0,none⟩)),(5,.pointer (some ⟨b3,0,none⟩)),(6,.pointer (some ⟨b4,0,none⟩)),(7,.int .i64 (i:Int))]) (fun _=>[]) (fun i=>[cel b4 ((bytes (d7 k b)).take i++(List.replicate 16 (U8 0#8)).drop i) 149,cel b3 (bytes (eC k b)) 186,cel b2 (List.replicate 16 (U8 0#8)) 149]) (fun i=>16-i) 0 (by omega) (.cons rfl (.cons rfl (.cons rfl (.cons rfl .nil)))) (fun _ h=>h.rea (fun _ h=>by cases h) rE) ?_;intro i hi;have l1:=dS k b;have l2:=ie k b;refine go 7 ?_;refine CW.cond rfl (fun hlt=>?_) (fun hlt=>?_)
 ·refine go 7 ?_;have hlt:i<16:=by simp at hlt;omega
  have g1:(bytes (eC k b))[0+i*1]?=some (U8 ((eC k b).getD i 0)):=by rw[Nat.zero_add,Nat.mul_one];exact dk (by omega)
  have g2:(bytes (d7 k b))[i]?=some (U8 ((eC k b).getD i 0)):=by rw[d7,←bytes_take,List.getElem?_take,if_pos hlt];exact dk (by omega)
  refine al (j:=i) (ho:=rfl) (hlt:=by omega) (h:=?_);refine go 1 ?_;refine al (j:=i) (ho:=rfl) (hlt:=hlt) (h:=?_);refine aj (cs':=(bytes (d7 k b)).take (i+1)++(List.replicate 16 (U8 0#8)).drop (i+1)) (vs:=[_]) (iU (by simp[dS]) g2) (ho:=rfl) (hl:=by simp[dS];omega) (h:=?_);refine go 5 ?_;refine ap rfl (ad (by omega) (by omega)) ?_;refine go 2 ?_;exact NQ.round (g:=i) (i+1) hlt (by omega) (.cons rfl (.cons rfl (.cons rfl (.cons rfl .nil)))) (fun _ h=>h)
 ·have hi16:i=16:=by simp at hlt;omega
  subst hi16;rw[List.take_of_length_le (by simp[dS]),List.drop_of_length_le (by simp),List.append_nil];refine go 12 ?_;exact RQ.post (cU rfl rfl KA149.h KS149.h mQ lQ) (aa _) ⟨rfl,rfl,rfl⟩
def oddN(a b:List B8):Nat→B8
 | 0=>0#8
 | j+1=>oddN a b j ||| (a.getD j 0^^^b.getD j 0)
theorem odd_zero(a b:List B8):∀j,oddN a b j=0#8↔∀i,i<j→a.getD i 0=b.getD i 0
 | 0=>by simp[oddN]
 | j+1=>by
  rw[oddN,BitVec.or_eq_zero_iff,odd_zero a b j,BitVec.xor_eq_zero_iff]
  constructor
  ·rintro⟨h1,h2⟩ i hi
   by_cases he:i=j
   ·subst he;exact h2
   ·exact h1 i (by omega)
  ·intro h
   exact⟨fun i hi=>h i (by omega),h j (by omega)⟩
theorem odd_same(a b:List B8)(hl:a.length=b.length):(((oddN a b a.length).toNat:Int)==0)=(a==b):=by
 have h1:(((oddN a b a.length).toNat:Int)==0)=true↔oddN a b a.length=0#8:=by
  rw[beq_iff_eq];constructor
  ·intro h;apply BitVec.eq_of_toNat_eq;simp at h ⊢;omega
  ·intro h;rw[h];rfl
 rw[Bool.eq_iff_iff,h1,odd_zero,beq_iff_eq];constructor
 ·intro h;apply List.ext_getElem hl;intro i h1 h2;have:=h i h1;rw[List.getD_eq_getElem?_getD,List.getD_eq_getElem?_getD] at this;simpa[h1,h2] using this
 ·rintro rfl i _;rfl
theorem sls_some{p:Option Addr}{n:Nat}(h:p=none→n=0)(hn:n≠0):∃a,p=some a:=by
 cases p with
 | none=>exact absurd (h rfl) hn
 | some a=>exact⟨a,rfl⟩
theorem equal_any(p q:Option Addr)(n m c1 c2:Nat)(a b:List B8)(hn:a.length=n)(hm:b.length=m)(hb:n≤1000000000):Spc Tryz.prog 234 #[.slice p n c1,.slice q m c2] [sls p 1 n (bytes a),sls q 1 m (bytes b)] [] (Is (.bool (a==b))):=by
 subst hn;subst hm;refine Spc.enter Tryz.func234 (h:=?_);refine fun w0 hw0=>?_;refine go 15 ?_;refine CW.cond rfl (fun hne=>?_) (fun hne=>?_)
 ·refine go 7 ?_;have hne:a≠b:=fun h=>by subst h;simp at hne
  exact RQ.post (az rfl rfl) (aa _) ⟨by simp[hne],rfl,rfl⟩
 ·have hl:a.length=b.length:=by simp at hne;omega
  refine aR (p:=(p=none→a.length=0)∧(q=none→b.length=0)) (fun w hC=>⟨fun e=>bf (hC.s.i (sls p 1 a.length (bytes a)) mQ) e,fun e=>bf (hC.s.i (sls q 1 b.length (bytes b)) mQ) e⟩) (fun hpq=>?_);refine go 16 ?_;refine CW.loop (γ:=Nat) (fun i=>i≤a.length) (fun i=>[(1,.slice q b.length c2),(5,U8 (oddN a b i)),(13,.slice p a.length c1),(14,.int .i64 (a.length:Int)),(15,.int .i64 (i:Int))]) (fun _=>[sls p 1 a.length (bytes a),sls q 1 b.length (bytes b)]) (fun _=>[]) (fun i=>a.length-i) 0 (by omega) (.cons rfl (.cons rfl (.cons rfl (.cons rfl (.cons rfl .nil))))) (fun _ h=>h) ?_;intro i hi;refine go 6 ?_;refine CW.cond rfl (fun hlt=>?_) (fun hlt=>?_)
  ·refine go 7 ?_;have hlt:i<a.length:=by simp at hlt;omega
   obtain⟨pa,rfl⟩:=sls_some hpq.1 (by omega);obtain⟨qa,rfl⟩:=sls_some hpq.2 (by omega);have g1:(bytes a)[i*1]?=some (U8 (a.getD i 0)):=by rw[Nat.mul_one];exact dk hlt
   have g2:(bytes b)[i*1]?=some (U8 (b.getD i 0)):=by rw[Nat.mul_one];exact dk (by omega)
   refine aS (j:=i) (ho:=rfl) (hlt:=hlt) (h:=?_);refine RL.load (ho:=rfl) (hr:=dP (List.Mem.head _) g1) (h:=go 9 ?_);refine aS (j:=i) (ho:=rfl) (h:=?_);refine RL.load (ho:=rfl) (hr:=dP (List.Mem.tail _ (List.Mem.head _)) g2) (h:=?_);refine RL.bv8 (a:=_) (b:=_) xor8 rfl rfl rfl rfl rfl (RL.bv8 (a:=_) (b:=_) or8 rfl rfl rfl rfl rfl (go 5 ?_));refine ap rfl (ad (by omega) (by omega)) ?_;refine go 2 ?_;exact NQ.round (g:=i) (i+1) hlt (by omega) (.cons rfl (.cons rfl (.cons rfl (.cons rfl (.cons rfl .nil))))) (fun _ h=>h)
  ·refine go 13 ?_;have hil:i=a.length:=by simp at hlt;omega
   subst hil;exact RQ.post (az rfl rfl) (aa _) ⟨by rw[←odd_same a b hl],rfl,rfl⟩
theorem right_any(k:List B8)(hk:k.length=32)(tg:List B8)(ht:tg.length=16)(pp:Option Addr)(qn cap:Nat)(qs:List Part)(hq:qs.length=qn)(hn:qn≤1000000)(hb:(aM qs).length≤100000000):Spc Tryz.prog 310 #[.agg (bytes k).toArray,.agg (bytes tg).toArray,.slice pp qn cap] (sls pp 1 qn (qs.map Part.v)::qs.map Part.i) [] (Is (.bool (tg==d7 k (aM qs)))):=by refine Spc.enter Tryz.func310 (h:=?_);refine fun w0 hw0=>?_;refine go 11 ?_;intro b1 b2;refine ar (tag_any k hk pp qn cap qs hq hn hb) (hl:=Lend.many (fun _ h=>h)) (h:=?_);refine go 5 ?_;intro b3;refine ae (Sq.of [0,1,2,3]) [] [] [0,1,3] (h:=?_);refine go 2 ?_;refine ar (equal_any (some ⟨b2,0,none⟩) (some ⟨b3,0,none⟩) 16 16 16 16 tg (d7 k (aM qs)) ht (dS _ _) (by decide)) Tryz.call234 rfl rfl rfl rfl (Lend.all mQ (by simp[ht]) (Lend.all mQ (by simp[dS]) .nil)) ?_;refine go 4 ?_;exact RQ.post (az rfl rfl) (aa _) ⟨rfl,rfl,rfl⟩
structure Fr where
 kd:Int
 sr:Int
 ep:Nat
 ct:Nat
 b:List B8
 tag:List B8
def Fr.cells(f:Fr)(sl:Value):List Value:=.int .i64 f.kd:: .int .i64 f.sr:: .int .u32 (f.ep:Int):: .int .u64 (f.ct:Int)::sl::bytes f.tag
structure Fr.Ok(f:Fr):Prop where
 ep:f.ep<4294967296
 ct:f.ct<18446744073709551616
 tag:f.tag.length=16
theorem dT{f:Fr}(h:f.tag.length=16)(sl:Value):(f.cells sl).length=21:=by simp[Fr.cells,h]
theorem fr_tag(f:Fr)(sl:Value):∀(j:Nat) (u:Value),(bytes f.tag)[j]?=some u→(f.cells sl)[0+5+j]?=some u:=fun j u hj=>by
 rw[show 0+5+j=j+1+1+1+1+1 by omega];exact hj
theorem ig(f:Fr){sl:Value}(hs:sl.oneCell'=true):dO (f.cells sl)=true:=by have h:dO (bytes f.tag)=true:=bC fh _;have e:dO (f.cells sl)=(true&&(true&&(true&&(true&&(sl.oneCell'&&dO (bytes f.tag)))))):=rfl;rw[e,hs,h];rfl
structure FrA where
 f:Fr
 p:Option Addr
 c:Nat
abbrev FrA.sl(x:FrA):Value:=.slice x.p x.f.b.length x.c
structure FrA.Ok(x:FrA):Prop where
 f:x.f.Ok
 c:x.f.b.length≤x.c
 b:x.f.b.length≤maxLen
def Fr.signed(f:Fr):List B8:=[BitVec.ofInt 8 f.kd,BitVec.ofInt 8 f.sr]++(beN 4 f.ep++(beN 8 f.ct++(f.b++[])))
theorem er(f:Fr):f.signed.length=14+f.b.length:=by simp[Fr.signed,aw];omega
def OwnT(l:List B8):Value→List It→List It→Prop:=fun v I' H'=>∃ob cap,v=aE ob l.length cap∧I'=[]∧H'=[own ob cap 5 1 l.length (bytes l)]∧True
theorem concatT(pp:Option Addr)(cap n:Nat)(ps:List Part)(l:List B8)(hn:ps.length=n)(hnb:n≤1000000)(hj:aM ps=l)(hb:l.length≤1000000):
  Spc Tryz.prog 88 #[.slice pp n cap] (sls pp 1 n (ps.map Part.v)::ps.map Part.i) [] (OwnT l):=fun w hw=>by
 subst hj
 refine(concatB_any pp cap n ps hn hnb hb w hw).mono ?_
 rintro e w' ⟨v,I',H',he,⟨ob,c,rfl,rfl,rfl⟩,h⟩
 exact⟨_,_,_,he,⟨ob,c,rfl,rfl,rfl,trivial⟩,h⟩
theorem fnumO(N n:Nat)(h0:0<n)(hn:n≤8)(v:Int)(hv:v=(N:Int)):Spc Tryz.prog 371 #[.int .u64 v,.int .i64 (n:Int)] [] [] (OwnN n (beN n N)):=fun w hw=>by
 subst hv
 refine(fnum_any N n h0 hn w hw).mono ?_
 rintro e w' ⟨v,I',H',he,⟨b,rfl,rfl,rfl⟩,hk,hs,h1,h2⟩
 refine⟨_,_,_,he,⟨some b,n,rfl,rfl,rfl,.inr rfl⟩,hk,⟨by simp,fun x hx=>?_,by simp[own],by simp⟩,fun c hc=>h1 c hc,by simp⟩
 rw[List.mem_singleton.1 hx]
 exact cel_own (by simp[aw]) (by unfold maxLen;omega) w' (hs.h _ (List.Mem.head _))
theorem w64_id{n:Nat}(h:n<18446744073709551616):IntKind.u64.wrap (n:Int)=(n:Int):=by simp[IntKind.wrap,IntKind.bits,IntKind.signed];omega
theorem signed_any(f:Fr)(p:Option Addr)(c n:Nat)(hf:f.Ok)(hn:f.b.length=n)(hb:n≤900000):Spc Tryz.prog 311 #[.agg (f.cells (.slice p n c)).toArray] [sls p 1 n (bytes f.b)] [] (OwnT f.signed):=by
 subst hn;have hl:=dT hf.tag (.slice p f.b.length c);refine Spc.enter Tryz.func311 (h:=?_);refine fun w0 hw0=>?_;refine go 7 ?_;intro b1;refine aB (A:=[_]) (B:=[]) (.take .nil) rfl (ae (.cons 0 (.cons 1 (.cons 2 (.cons 3 (.cons 4 (.cons 5 (.cons 7 (.cons 8 (.cons 9 (.cons 11 (.cons 12 (.cons 14 (.cons 15 (.fork [6,10] (fun k=>(bif Nat.beq k 6 then(Sq.of [10,13,16,17,18]) else(.fork [6,13] (fun k=>(bif Nat.beq k 6 then(Sq.of [13,16,17,18]) else(Sq.of [6,16,17,18])))))))))))))))))))) [6,10,13,16,17] [] [0,1,2,3,4,5,7,8,9,11,12,14,15,18] (h:=?_));refine go 2 ?_;refine bQ (ho:=rfl) (h:=go 2 ?_);refine bQ (ho:=rfl) (h:=go 7 ?_);refine RL.fork ⟨?_,?_,trivial⟩
 ·refine RL.buildSlice [_,_] (ho:=rfl) (h:=?_);intro b2;refine ax (fnumO f.ep 4 (by decide) (by decide) _ (w64_id (by have:=hf.ep;omega))) Tryz.call371 rfl rfl rfl rfl rfl (.inl rfl) ?_;rintro _ _ _ ⟨ob1,cap1,rfl,rfl,rfl,ho1⟩;refine ax (fnumO f.ct 8 (by decide) (by decide) _ rfl) Tryz.call371 rfl rfl rfl rfl rfl (.inl rfl) ?_;rintro _ _ _ ⟨ob2,cap2,rfl,rfl,rfl,ho2⟩;refine RL.buildSlice [_,_,_,_] (ho:=rfl) (h:=?_);intro b3;refine RL.call (concatT (some ⟨b3,0,none⟩) 4 4 [⟨some ⟨b2,0,none⟩,2,[BitVec.ofInt 8 f.kd,BitVec.ofInt 8 f.sr]⟩,⟨ob1.map fun b=>⟨b,0,none⟩,cap1,beN 4 f.ep⟩,⟨ob2.map fun b=>⟨b,0,none⟩,cap2,beN 8 f.ct⟩,⟨p,c,f.b⟩] f.signed rfl (by decide) rfl (by rw[er];omega)) (hl:=fz mQ rfl rfl (Lend.all mQ rfl (Lend.own mQ (Lend.own mQ (.inI (by simp) .nil))))) (hb:=.inl rfl) (h:=?_);rintro _ _ _ ⟨ob3,cap3,rfl,rfl,rfl,ho3⟩;refine go 4 ?_;exact RQ.post (az rfl rfl) (.keep (aa _)) ⟨ob3,cap3,rfl,rfl,rfl,trivial⟩
 ·refine ax (fnumO f.ep 4 (by decide) (by decide) _ (w64_id (by have:=hf.ep;omega))) Tryz.call371 rfl rfl rfl rfl rfl (.inl rfl) ?_;rintro _ _ _ ⟨ob1,cap1,rfl,rfl,rfl,ho1⟩;refine RL.fork ⟨?_,?_,trivial⟩
  ·refine RL.buildSlice [_,_] (ho:=rfl) (h:=?_);intro b2;refine ax (fnumO f.ct 8 (by decide) (by decide) _ rfl) Tryz.call371 rfl rfl rfl rfl rfl (.inl rfl) ?_;rintro _ _ _ ⟨ob2,cap2,rfl,rfl,rfl,ho2⟩;refine RL.buildSlice [_,_,_,_] (ho:=rfl) (h:=?_);intro b3;refine RL.call (concatT (some ⟨b3,0,none⟩) 4 4 [⟨some ⟨b2,0,none⟩,2,[BitVec.ofInt 8 f.kd,BitVec.ofInt 8 f.sr]⟩,⟨ob1.map fun b=>⟨b,0,none⟩,cap1,beN 4 f.ep⟩,⟨ob2.map fun b=>⟨b,0,none⟩,cap2,beN 8 f.ct⟩,⟨p,c,f.b⟩] f.signed rfl (by decide) rfl (by rw[er];omega)) (hl:=fz mQ rfl rfl (Lend.all mQ rfl (Lend.own mQ (Lend.own mQ (.inI (by simp) .nil))))) (hb:=.inl rfl) (h:=?_);rintro _ _ _ ⟨ob3,cap3,rfl,rfl,rfl,ho3⟩;refine go 4 ?_;exact RQ.post (az rfl rfl) (.keep (aa _)) ⟨ob3,cap3,rfl,rfl,rfl,trivial⟩
  ·refine ax (fnumO f.ct 8 (by decide) (by decide) _ rfl) Tryz.call371 rfl rfl rfl rfl rfl (.inl rfl) ?_;rintro _ _ _ ⟨ob2,cap2,rfl,rfl,rfl,ho2⟩;refine RL.buildSlice [_,_] (ho:=rfl) (h:=?_);intro b2;refine RL.buildSlice [_,_,_,_] (ho:=rfl) (h:=?_);intro b3;refine RL.call (concatT (some ⟨b3,0,none⟩) 4 4 [⟨some ⟨b2,0,none⟩,2,[BitVec.ofInt 8 f.kd,BitVec.ofInt 8 f.sr]⟩,⟨ob1.map fun b=>⟨b,0,none⟩,cap1,beN 4 f.ep⟩,⟨ob2.map fun b=>⟨b,0,none⟩,cap2,beN 8 f.ct⟩,⟨p,c,f.b⟩] f.signed rfl (by decide) rfl (by rw[er];omega)) (hl:=fz mQ rfl rfl (Lend.all mQ rfl (Lend.own mQ (Lend.own mQ (.inI (by simp) .nil))))) (hb:=.inl rfl) (h:=?_);rintro _ _ _ ⟨ob3,cap3,rfl,rfl,rfl,ho3⟩;refine go 4 ?_;exact RQ.post (az rfl rfl) (.keep (aa _)) ⟨ob3,cap3,rfl,rfl,rfl,trivial⟩
def crcLow:dg:=3988292384#32
def crcB(r:dg):dg:=(r >>> 1)^^^(crcLow &&& (-(r &&& 1#32)))
def crcN:Nat→dg→dg
 | 0,r=>r
 | n+1,r=>crcB (crcN n r)
def crcX(r:dg)(x:B8):dg:=crcN 8 (r^^^x.setWidth 32)
def crcA(r:dg)(l:List B8):dg:=l.foldl crcX r
def crcOf(l:List B8):dg:= ~~~ (crcA (~~~ 0#32) l)
def crcS(s:dg):List B8:=[s.setWidth 8,(s >>> 8).setWidth 8,(s >>> 16).setWidth 8,(s >>> 24).setWidth 8]
def dJ(l:List B8):List B8:=l++crcS (crcOf l)
theorem and_one(r:dg):(r &&& 1#32).toNat=r.toNat%2:=by rw[BitVec.toNat_and];exact Nat.and_one_is_mod _
theorem crc_odd{r:dg}(h:r%2#32=1#32):(r/2#32)^^^crcLow=crcB r:=by
 have h2:r.toNat%2=1:=by have:=congrArg BitVec.toNat h;simpa using this
 have h1:r &&& 1#32=1#32:=BitVec.eq_of_toNat_eq (by rw[and_one,h2];rfl);have h3:r/2#32=r >>> 1:=BitVec.eq_of_toNat_eq (by simp[BitVec.toNat_udiv,Nat.shiftRight_eq_div_pow]);rw[crcB,h1,h3];congr 1
theorem crc_even{r:dg}(h:r%2#32≠1#32):r/2#32=crcB r:=by
 have h2:r.toNat%2=0:=by
  rcases Nat.mod_two_eq_zero_or_one r.toNat with h0|h0
  ·exact h0
  ·exact absurd (BitVec.eq_of_toNat_eq (by simpa using h0)) h
 have h1:r &&& 1#32=0#32:=BitVec.eq_of_toNat_eq (by rw[and_one,h2];rfl);have h3:r/2#32=r >>> 1:=BitVec.eq_of_toNat_eq (by simp[BitVec.toNat_udiv,Nat.shiftRight_eq_div_pow]);rw[crcB,h1,h3];have:crcLow &&& (-(0#32))=0#32:=by decide
 rw[this,BitVec.xor_zero]
theorem crcA_snoc(r:dg)(l:List B8)(x:B8):crcA r (l++[x])=crcX (crcA r l) x:=by simp[crcA]
theorem crcA_take{l:List B8}{i:Nat}{x:B8}(h:l[i]?=some x)(r:dg):crcA r (l.take (i+1))=crcX (crcA r (l.take i)) x:=by rw[List.take_add_one,h];exact crcA_snoc _ _ _
theorem eT(l:List B8):(dJ l).length=l.length+4:=by simp[dJ,crcS]
theorem neg32(a:dg):Value.int .u32 (IntKind.u32.wrap (0-(a.toNat:Int)))=ci (-a):=by rw[ci,eK,Int.zero_sub,BitVec.ofInt_neg,BitVec.ofInt_natCast,BitVec.ofNat_toNat];simp
theorem sub_inv(a:dg):Value.int .u32 (IntKind.u32.wrap (4294967295-(a.toNat:Int)))=ci (~~~a):=by
 have h:=a.isLt;have h2:(~~~a).toNat=4294967295-a.toNat:=by rw[BitVec.toNat_not]
 rw[ci,h2];congr 1;simp[IntKind.wrap,IntKind.bits,IntKind.signed];omega
theorem crcS_ref(s:dg):[(s%256#32).setWidth 8,(s/256#32%256#32).setWidth 8,(s/65536#32%256#32).setWidth 8,(s/16777216#32).setWidth 8]=crcS s:=by have e0:(s%256#32).setWidth 8=s.setWidth 8:=BitVec.eq_of_toNat_eq (by simp);have e1:(s/256#32%256#32).setWidth 8=(s >>> 8).setWidth 8:=BitVec.eq_of_toNat_eq (by simp[Nat.shiftRight_eq_div_pow]);have e2:(s/65536#32%256#32).setWidth 8=(s >>> 16).setWidth 8:=BitVec.eq_of_toNat_eq (by simp[Nat.shiftRight_eq_div_pow]);have e3:(s/16777216#32).setWidth 8=(s >>> 24).setWidth 8:=BitVec.eq_of_toNat_eq (by simp[Nat.shiftRight_eq_div_pow]);rw[e0,e1,e2,e3,crcS]
theorem cadd_any(r:dg)(p:Option Addr)(c n:Nat)(l:List B8)(hn:l.length=n)(hb:n≤1000000):Spc Tryz.prog 366 #[ci r,.slice p n c] [sls p 1 n (bytes l)] [] (Is (ci (crcA r l))):=by
 subst hn;refine Spc.enter Tryz.func366 (h:=?_);refine fun w0 hw0=>?_;refine go 14 ?_;refine aW (fun J hJ=>?_);have m2:sls p 1 l.length (bytes l)∈J:=hJ _ (by simp);clear hJ;refine CW.loop (γ:=Nat) (fun i=>i≤l.length) (fun i=>[(0,ci (crcA r (l.take i))),(8,.slice p l.length c),(9,.int .i64 (l.length:Int)),(10,.int .i64 (i:Int))]) (fun _=>J) (fun _=>[]) (fun i=>l.length-i) 0 (Nat.zero_le _) (.cons rfl (.cons rfl (.cons rfl (.cons rfl .nil)))) wE ?_;intro i hi;refine aR (p:=p=none→l.length=0) (fun w hC e=>bf (hC.s.i _ m2) e) (fun hpa=>?_);refine go 6 ?_;refine CW.cond rfl (fun hlt=>?_) (fun hlt=>?_)
 ·have hlt:i<l.length:=by simp at hlt;omega
  cases p with
  | none=>exact absurd (hpa rfl) (by omega)
  | some a=>
  have hx:=List.getElem?_eq_getElem hlt;have htk:=fun r=>crcA_take (r:=r) hx;generalize l[i]=x at hx htk;have f1:RdI J (a.add (i*1)) (U8 x):=⟨fun _=>by rw[Nat.mul_one];exact Rds.rd (Rds.sls m2) (by rw[List.getElem?_map,hx];rfl)⟩
  refine go 6 ?_;first|refine aP (j:=i) KU55.h KS5.h rfl rfl rfl rfl rfl rfl (hlt) ?_|refine aS (j:=i) KU55.h KS5.h rfl rfl rfl rfl rfl rfl (hlt) ?_
  refine go 8 ?_;refine dq (ho:=rfl) (h:=?_);refine aC (a:=_) (b:=_) dN (h:=?_);refine go 9 ?_;refine CW.loop (γ:=Nat) (fun k=>k≤8) (fun k=>[(0,ci (crcN k (crcA r (l.take i)^^^x.setWidth 32))),(8,.slice (some a) l.length c),(9,.int .i64 (l.length:Int)),(10,.int .i64 (i:Int)),(18,.int .i64 (k:Int))]) (fun _=>J) (fun _=>[]) (fun k=>8-k) 0 (Nat.zero_le _) (.cons rfl (.cons rfl (.cons rfl (.cons rfl (.cons rfl .nil))))) wE ?_;intro k hk;generalize hs:crcN k (crcA r (l.take i)^^^x.setWidth 32)=s;refine go 6 ?_;refine CW.cond rfl (fun hk8=>?_) (fun hk8=>?_)
  ·refine go 7 ?_;refine aC (a:=_) (b:=1#32) and32 (h:=?_);refine RL.neg rfl rfl rfl rfl (av (d:=22) rfl (neg32 _) ?_);refine go 5 ?_;refine gc 1 rfl rfl rfl rfl rfl (h:=?_);refine go 1 ?_;refine aC (a:=3988292384#32) (b:=_) and32 (h:=?_);refine aC (a:=_) (b:=_) dN (h:=?_);refine go 5 ?_;refine ap rfl (ad (by omega) (by omega)) ?_;refine go 2 ?_;have hk8:k<8:=by simp at hk8;omega
   refine NQ.round (g:=k) (k+1) hk8 (by show 8-(k+1)<8-k;omega) (.cons (by rw[crcN,hs];rfl) (.cons rfl (.cons rfl (.cons rfl (.cons rfl .nil))))) wE
  ·refine go 7 ?_;refine ap rfl (ad (by omega) (by omega)) ?_;refine go 2 ?_;have hk8:k=8:=by simp at hk8;omega
   subst hk8;refine NQ.round (g:=i) (i+1) hlt (by show l.length-(i+1)<l.length-i;omega) (.cons (by rw[htk,crcX,hs];rfl) (.cons rfl (.cons rfl (.cons rfl .nil)))) wE
 ·refine go 12 ?_;have hin:i=l.length:=by simp at hlt;omega
  subst hin;exact RQ.post (az rfl rfl) (aa _) ⟨by rw[List.take_length],rfl,rfl⟩
def crcK(l:List B8)(i:Nat):dg:=crcA (~~~ 0#32) (if i=0 then [] else l)
theorem cof_one(b:Nat)(p:Option Addr)(c n:Nat)(l:List B8)(hn:l.length=n)(hb:n≤1000000):Spc Tryz.prog 305 #[.slice (some ⟨b,0,none⟩) 1 1] [sls (some ⟨b,0,none⟩) 1 1 [.slice p n c],sls p 1 n (bytes l)] [] (Is (ci (crcOf l))):=by
 subst hn;refine Spc.enter Tryz.func305 (h:=?_);refine fun w0 hw0=>?_;refine go 19 ?_;refine aW (fun J hJ=>?_);have m1:sls (some ⟨b,0,none⟩) 1 1 [.slice p l.length c]∈J:=hJ _ (by simp);have m2:sls p 1 l.length (bytes l)∈J:=hJ _ (by simp);clear hJ;refine CW.loop (γ:=Nat) (fun i=>i≤1) (fun i=>[(3,ci (crcK l i)),(6,.slice (some ⟨b,0,none⟩) 1 1),(7,.int .i64 1),(8,.int .i64 (i:Int))]) (fun _=>J) (fun _=>[]) (fun i=>1-i) 0 (Nat.zero_le _) (.cons rfl (.cons rfl (.cons rfl (.cons rfl .nil)))) wE ?_;intro i hi;refine go 6 ?_;refine CW.cond rfl (fun hlt=>?_) (fun hlt=>?_)
 ·obtain rfl:i=0:=by simp at hlt;omega
  have f1:RdI J ⟨b,0+0*1,none⟩ (.slice p l.length c):=⟨fun _=>Rds.rd (p:=⟨b,0,none⟩) (j:=0) (Rds.sls m1) rfl⟩;refine go 6 ?_;first|refine aP (j:=0) KU320.h KS55.h rfl rfl rfl rfl rfl rfl ((by decide)) ?_|refine aS (j:=0) KU320.h KS55.h rfl rfl rfl rfl rfl rfl ((by decide)) ?_
  refine go 7 ?_;refine ar (cadd_any (crcK l 0) p c _ l rfl hb) (hl:=.inI m2 .nil) (h:=go 5 ?_);refine ap rfl (ad (by omega) (by omega)) ?_;refine go 2 ?_;refine NQ.round (g:=0) 1 (by decide) (by decide) (.cons rfl (.cons rfl (.cons rfl (.cons rfl .nil)))) wE
 ·refine go 8 ?_;refine RL.inv32 rfl rfl rfl rfl (go 4 ?_);obtain rfl:i=1:=by simp at hlt;omega
  exact RQ.post (az rfl rfl) (aa _) ⟨rfl,rfl,rfl⟩
theorem csum_any(p:Option Addr)(c n:Nat)(l:List B8)(hn:l.length=n)(hb:n≤1000000):Spc Tryz.prog 229 #[.slice p n c] [sls p 1 n (bytes l)] [] (Is (.agg (bytes (crcS (crcOf l))).toArray)):=by refine Spc.enter Tryz.func229 (h:=?_);refine fun w0 hw0=>?_;refine go 8 ?_;intro b1;refine RL.buildSlice [_] (ho:=rfl) (h:=?_);intro b2;refine ar (cof_one b2 p c n l hn hb) (hl:=Lend.all mQ rfl (.inI (List.Mem.head _) .nil)) (h:=?_);refine go 6 ?_;refine dZ (ho:=rfl) (h:=go 1 ?_);refine gc 8 rfl rfl rfl rfl rfl (h:=?_);refine dZ (ho:=rfl) (h:=go 1 ?_);refine gc 16 rfl rfl rfl rfl rfl (h:=?_);refine dZ (ho:=rfl) (h:=go 1 ?_);refine gc 24 rfl rfl rfl rfl rfl (h:=?_);refine dZ (ho:=rfl) (h:=?_);refine bi (bytes (crcS (crcOf l))) (ho:=rfl) (h:=go 4 ?_);exact RQ.post (cU rfl rfl KA417.h KS417.h mQ rfl) (aa _) ⟨rfl,rfl,rfl⟩
theorem cput_any(p:Option Addr)(c n:Nat)(l:List B8)(hn:l.length=n)(hb:n≤900000):Spc Tryz.prog 275 #[.slice p n c] [sls p 1 n (bytes l)] [] (OwnT (dJ l)):=by subst hn;refine Spc.enter Tryz.func275 (h:=?_);refine fun w0 hw0=>?_;refine go 8 ?_;refine ab (csum_any p c _ l rfl (by omega)) Tryz.call229 rfl rfl rfl rfl ?_;refine go 8 ?_;intro b1;refine RL.buildSlice [_,_] (ho:=rfl) (h:=?_);intro b2;refine RL.call (concatT (some ⟨b2,0,none⟩) 2 2 [⟨p,c,l⟩,⟨some ⟨b1,0,none⟩,4,crcS (crcOf l)⟩] (dJ l) rfl (by decide) (by simp[aM,dJ]) (by rw[eT];omega)) (hl:=Lend.all mQ rfl (.inI mQ (Lend.all mQ rfl .nil))) (hb:=.inl rfl) (h:=?_);rintro _ _ _ ⟨ob1,cap1,rfl,rfl,rfl,ho1⟩;refine go 4 ?_;exact RQ.post (az rfl rfl) (.keep (aa _)) ⟨ob1,cap1,rfl,rfl,rfl,trivial⟩
theorem Lies.seg{b off n:Nat}{cs xs:List Value}{T:TypeId}(hl:xs.length=n*1)(hx:∀j u,xs[j]?=some u→cs[off+j]?=some u):Lies (cel b cs T) (sls (some ⟨b,off,none⟩) 1 n xs):=
 ⟨fun _ h=>cel_sls h hl hx,fun c hc=>by by_cases hn:n=0<;>simp_all [PK.sls,PK.cel]⟩
def eA(f:Fr):List B8:=[165#8,90#8]++dJ (BitVec.ofInt 8 ((f.signed++f.tag).length:Int)::(f.signed++f.tag))
def OwnP(l:List B8):Value→List It→List It→Prop:=fun v I' H'=>∃ob cap,v=.tuple #[aE ob l.length cap,.int .i64 0]∧I'=[]∧H'=[own ob cap 5 1 l.length (bytes l)]
structure Fr.Fit(f:Fr):Prop where
 ok:f.Ok
 kd:0≤f.kd∧f.kd≤255
 sr:0≤f.sr∧f.sr≤255
 b:f.b.length≤48
theorem frB_len{f:Fr}(h:f.tag.length=16):(eA f).length=37+f.b.length:=by simp[eA,dJ,crcS,er,h];omega
theorem radd11(r:dg)(p:Option Addr)(c n:Nat)(l:List B8)(hn:l.length=n)(hb:n≤1000000):Spc Tryz.prog 227 #[ci r,.slice p n c] [sls p 1 n (bytes l)] [] (Is (ci (crcA r l))):=by
 subst hn;refine Spc.enter Tryz.func227 (h:=?_);refine fun w0 hw0=>?_;refine go 12 ?_;refine aW (fun J hJ=>?_);have m2:sls p 1 l.length (bytes l)∈J:=hJ _ (by simp);clear hJ;refine CW.loop (γ:=Nat) (fun i=>i≤l.length) (fun i=>[(0,ci (crcA r (l.take i))),(1,.slice p l.length c),(5,.int .i64 (i:Int))]) (fun _=>J) (fun _=>[]) (fun i=>l.length-i) 0 (Nat.zero_le _) (.cons rfl (.cons rfl (.cons rfl .nil))) wE ?_;intro i hi;refine aR (p:=p=none→l.length=0) (fun w hC e=>bf (hC.s.i _ m2) e) (fun hpa=>?_);refine go 9 ?_;refine CW.cond rfl (fun hlt=>?_) (fun hlt=>?_)
 ·have hlt:i<l.length:=by simp at hlt;omega
  cases p with
  | none=>exact absurd (hpa rfl) (by omega)
  | some a=>
  have hx:=List.getElem?_eq_getElem hlt;have htk:=fun r=>crcA_take (r:=r) hx;generalize l[i]=x at hx htk;have f1:RdI J (a.add (i*1)) (U8 x):=⟨fun _=>by rw[Nat.mul_one];exact Rds.rd (Rds.sls m2) (by rw[List.getElem?_map,hx];rfl)⟩
  refine go 9 ?_;first|refine aP (j:=i) KU55.h KS5.h rfl rfl rfl rfl rfl rfl (hlt) ?_|refine aS (j:=i) KU55.h KS5.h rfl rfl rfl rfl rfl rfl (hlt) ?_
  refine go 1 ?_;refine dq (ho:=rfl) (h:=?_);refine aC (a:=_) (b:=_) dN (h:=?_);refine go 9 ?_;refine CW.loop (γ:=Nat) (fun k=>k≤8) (fun k=>[(0,ci (crcN k (crcA r (l.take i)^^^x.setWidth 32))),(1,.slice (some a) l.length c),(5,.int .i64 (i:Int)),(6,.int .i64 (k:Int))]) (fun _=>J) (fun _=>[]) (fun k=>8-k) 0 (Nat.zero_le _) (.cons rfl (.cons rfl (.cons rfl (.cons rfl .nil)))) wE ?_;intro k hk;generalize hs:crcN k (crcA r (l.take i)^^^x.setWidth 32)=s;refine go 7 ?_;refine CW.cond rfl (fun hk8=>?_) (fun hk8=>?_)
  ·refine go 7 ?_;refine iA (2#32) rfl rfl rfl rfl rfl (by decide) ?_;refine go 6 ?_;refine gG (2#32) rfl rfl rfl rfl rfl (h:=?_);refine go 9 ?_;have hk8:k<8:=by simp at hk8;omega
   refine CW.cond rfl (fun ho=>?_) (fun ho=>?_)
   ·refine go 2 ?_;refine aC (a:=_) (b:=3988292384#32) dN (h:=?_);refine go 6 ?_;refine ap rfl (ad (by omega) (by omega)) ?_;refine go 2 ?_
    have ho:s%2#32=1#32:=by
     have h2:((s%2#32).toNat:Int)=((1#32:dg).toNat:Int):=by simpa using ho
     exact BitVec.eq_of_toNat_eq (by omega)
    have hc:=crc_odd ho;exact NQ.round (g:=k) (k+1) hk8 (by show 8-(k+1)<8-k;omega) (.cons (by rw[crcN,hs,←hc];rfl) (.cons rfl (.cons rfl (.cons rfl .nil)))) wE
   ·refine go 5 ?_;refine ap rfl (ad (by omega) (by omega)) ?_;refine go 2 ?_
    have ho:s%2#32≠1#32:=fun h=>by
     have h2: ¬((s%2#32).toNat:Int)=((1#32:dg).toNat:Int):=by simpa using ho
     exact h2 (by rw[h])
    have hc:=crc_even ho;exact NQ.round (g:=k) (k+1) hk8 (by show 8-(k+1)<8-k;omega) (.cons (by rw[crcN,hs,←hc];rfl) (.cons rfl (.cons rfl (.cons rfl .nil)))) wE
  ·refine go 8 ?_;refine ap rfl (ad (by omega) (by omega)) ?_;refine go 2 ?_;have hk8:k=8:=by simp at hk8;omega
   subst hk8;refine NQ.round (g:=i) (i+1) hlt (by show l.length-(i+1)<l.length-i;omega) (.cons (by rw[htk,crcX,hs];rfl) (.cons rfl (.cons rfl .nil))) wE
 ·refine go 12 ?_;have hin:i=l.length:=by simp at hlt;omega
  subst hin;exact RQ.post (az rfl rfl) (aa _) ⟨by rw[List.take_length],rfl,rfl⟩
theorem rof11(p:Option Addr)(c n:Nat)(l:List B8)(hn:l.length=n)(hb:n≤1000000):Spc Tryz.prog 155 #[.slice p n c] [sls p 1 n (bytes l)] [] (Is (ci (crcOf l))):=by refine Spc.enter Tryz.func155 (h:=?_);refine fun w0 hw0=>?_;refine go 8 ?_;refine ab (radd11 (~~~ 0#32) p c n l hn hb) (h:=?_);refine go 1 ?_;refine av (d:=5) rfl (sub_inv _) ?_;refine go 4 ?_;exact RQ.post (az rfl rfl) (aa _) ⟨rfl,rfl,rfl⟩
theorem rput11(p:Option Addr)(c n:Nat)(l:List B8)(hn:l.length=n)(hb:n≤900000):Spc Tryz.prog 82 #[.slice p n c] [sls p 1 n (bytes l)] [] (OwnT (dJ l)):=by subst hn;have hS:=crcS_ref (crcOf l);refine Spc.enter Tryz.func82 (h:=?_);refine fun w0 hw0=>?_;refine go 8 ?_;refine ab (rof11 p c _ l rfl (by omega)) Tryz.call155 rfl rfl rfl rfl ?_;refine go 5 ?_;refine ao [] (ho:=rfl) (h:=?_);intro b1;refine go 3 ?_;intro ob1 cap1 ho1;refine iA (256#32) rfl rfl rfl rfl rfl (by decide) ?_;refine dZ (ho:=rfl) (h:=go 1 ?_);refine gG (256#32) rfl rfl rfl rfl rfl (h:=?_);refine iA (256#32) rfl rfl rfl rfl rfl (by decide) ?_;refine dZ (ho:=rfl) (h:=go 1 ?_);refine gG (65536#32) rfl rfl rfl rfl rfl (h:=?_);refine iA (256#32) rfl rfl rfl rfl rfl (by decide) ?_;refine dZ (ho:=rfl) (h:=go 1 ?_);refine gG (16777216#32) rfl rfl rfl rfl rfl (h:=?_);refine dZ (ho:=rfl) (h:=?_);refine ao [_,_,_,_] (ho:=rfl) (h:=?_);intro b2;refine go 5 ?_;intro ob2 cap2 ho2;rw[bE (n':=(dJ l).length) (xs':=bytes (dJ l)) (by rw[eT];omega) (by rw[dJ,←hS];simp)];exact RQ.post (az rfl rfl) (.keep (aa _)) ⟨ob2,cap2,by rw[eT,Nat.zero_add],rfl,rfl,trivial⟩
theorem Lend.ownM{I F J:List It}{b cap sz n n':Nat}{e:TypeId}{xs xs':List Value}(hm:PK.own (some b) cap e sz n xs∈F)(hn:n=n')(hx:xs=xs')(h:Lend I F J):Lend I F (PK.sls (some ⟨b,0,none⟩) sz n' xs'::J):=by subst hn;subst hx;exact Lend.own (ob:=some b) hm h
def d8(k lb:List B8)(n:Nat):List B8:=eC k (lb++0#8::be8 n)
def nlay(n j:Nat):List Value:=List.replicate (9-j) (U8 0#8)++bytes ((be8 n).drop (8-j))
theorem nlay_step(n j:Nat)(hj:j<8):bP (nlay n j) (0+(8-j)*1) [U8 (BitVec.ofNat 8 (n/256^j))]=nlay n (j+1):=by
 rw[Nat.zero_add,Nat.mul_one,nlay,nlay,be8_cons n j hj,show 9-j=(8-j)+1 by omega,List.replicate_succ',show 9-(j+1)=8-j by omega]
 have h1:bP (List.replicate (8-j) (U8 0#8)++[U8 0#8]++bytes ((be8 n).drop (8-j))) (8-j) [U8 (BitVec.ofNat 8 (n/256^j))]=List.replicate (8-j) (U8 0#8)++[U8 (BitVec.ofNat 8 (n/256^j))]++bytes ((be8 n).drop (8-j)):=by
  rw[dH _ _ _ (by simp)];congr 1
  ·rw[List.append_assoc,List.take_append_of_le_length (by simp),List.take_of_length_le (by simp)]
  ·rw[List.drop_left' (by simp)]
 rw[h1];simp only[List.append_assoc,List.singleton_append,List.map_cons]
theorem nlay_length(n j:Nat)(hj:j≤8):(nlay n j).length=9:=by simp[nlay,el];omega
theorem nlay_zero(n:Nat):nlay n 0=List.replicate 9 (U8 0#8):=by simp[nlay,be8]
theorem nlay_all(n:Nat):nlay n 8=bytes (0#8::be8 n):=by simp[nlay]
theorem u64_shr(n j:Nat):(((n/256^j:Nat):Int).fdiv (2^8))=((n/256^(j+1):Nat):Int):=by rw[Int.fdiv_eq_ediv_of_nonneg _ (by decide),Nat.pow_succ,←Nat.div_div_eq_div_mul];simp
theorem u64_quo'(N j:Nat)(h:N<18446744073709551616):Value.int .u64 (IntKind.u64.wrap (((N/256^j:Nat):Int).tdiv 256))=.int .u64 ((N/256^(j+1):Nat):Int):=by have h2:N/256^(j+1)≤N:=Nat.div_le_self _ _;rw[show(256:Int)=((256:Nat):Int) from rfl,tdivN,Nat.div_div_eq_div_mul,←Nat.pow_succ];generalize N/256^(j+1)=q at h2 ⊢;congr 1;simp only[IntKind.wrap,IntKind.bits,IntKind.signed];simp;omega
theorem derive_any(k:List B8)(hk:k.length=32)(lb:List B8)(hlb:lb.length≤10000000)(n:Nat)(hn:n<18446744073709551616):Spc Tryz.prog 369 #[.agg (bytes k).toArray,.string (txt lb),.int .u64 (n:Int)] [] [] (Is (.agg (bytes (d8 k lb n)).toArray)):=by
 refine Spc.enter Tryz.func369 (h:=?_);refine fun w0 hw0=>?_;refine go 3 ?_;intro b1;refine RL.alloc (cs:=List.replicate 32 (U8 0#8)) (ho:=rfl) (h:=?_);intro b2;refine go 14 ?_;intro b3;refine CW.loop (γ:=Nat) (fun j=>j≤8) (fun j=>[(1,.string (txt lb)),(2,.int .u64 ((n/256^j:Nat):Int)),(3,.pointer (some ⟨b1,0,none⟩)),(6,.pointer (some ⟨b2,0,none⟩)),(7,.pointer (some ⟨b3,0,none⟩)),(8,.int .i64 (8-(j:Int)))]) (fun _=>[]) (fun j=>[cel b3 (nlay n j) 639,cel b2 (List.replicate 32 (U8 0#8)) 31,cel b1 (bytes k) 31]) (fun j=>8-j) 0 (by omega) (.cons rfl (.cons (by simp;rfl) (.cons rfl (.cons rfl (.cons rfl (.cons rfl .nil)))))) (fun _ h=>by rw[nlay_zero];exact h) ?_;intro j hj;refine go 7 ?_;refine CW.cond rfl (fun hlt=>?_) (fun hlt=>?_)
 ·refine go 8 ?_;refine bQ (ho:=rfl) (h:=?_);have hlt:j<8:=by simp at hlt;omega
  refine al (j:=8-j) (ho:=rfl) (hj:=by omega) (hlt:=by omega) (h:=?_);rw[BitVec.ofInt_natCast];refine aj (cs':=nlay n (j+1)) (vs:=[_]) (nlay_step n j hlt) (ho:=rfl) (hl:=by rw[nlay_length n j (by omega)];simp) (h:=?_);refine go 4 ?_;refine RL.shr 8 (h:=?_);rw[u64_shr];refine go 6 ?_;refine ap rfl (ad (by omega) (by omega)) ?_;refine go 2 ?_;exact NQ.round (g:=j) (j+1) hlt (by omega) (.cons rfl (.cons rfl (.cons rfl (.cons rfl (.cons rfl (.cons (by rw[show(8-((j+1:Nat):Int))=8-(j:Int)-1 by omega];rfl) .nil)))))) (fun _ h=>h)
 ·have hj8:j=8:=by simp at hlt;omega
  subst hj8;rw[nlay_all];refine go 6 ?_;refine ae (Sq.of [0,1,3,2,4,5,6]) [2,4,5,6] [6] [0,1,3] (h:=?_);refine go 3 ?_;refine RL.strBytes (e:=5) (hb:=by omega) (ho:=rfl) (hw:=rfl) (hN:=rfl) (hi:=rfl) (hx:=rfl) (h:=?_);intro bs cs;have hj2:aM [⟨some ⟨bs,0,none⟩,cs,lb⟩,⟨some ⟨b3,0,none⟩,9,0#8::be8 n⟩]=lb++0#8::be8 n:=by rw[jc]
  refine RL.buildSlice [_,_] (ho:=rfl) (h:=?_);intro b4;refine ar (code_n (some ⟨b1,0,none⟩) 32 32 k hk (by decide) (some ⟨b4,0,none⟩) 2 2 [⟨some ⟨bs,0,none⟩,cs,lb⟩,⟨some ⟨b3,0,none⟩,9,0#8::be8 n⟩] rfl (by decide) (by rw[hj2];simp[el];omega)) (hl:=Lend.all mQ (by simp[hk]) (Lend.all mQ rfl (Lend.ownM mQ rfl rfl (Lend.all mQ rfl .nil)))) (h:=?_);refine go 4 ?_;rw[hj2];exact RQ.post (cU rfl rfl KA31.h KS31.h mQ lQ) (aa _) ⟨rfl,rfl,rfl⟩
theorem rderive_any(k:List B8)(hk:k.length=32)(lb:List B8)(hlb:lb.length≤10000000)(n:Nat)(hn:n<18446744073709551616):Spc Tryz.prog 151 #[.agg (bytes k).toArray,.string (txt lb),.int .u64 (n:Int)] [] [] (Is (.agg (bytes (d8 k lb n)).toArray)):=by
 refine Spc.enter Tryz.func151 (h:=?_);refine fun w0 hw0=>?_;refine go 3 ?_;intro b1;refine RL.alloc (cs:=List.replicate 32 (U8 0#8)) (ho:=rfl) (h:=?_);intro b2;refine go 5 ?_;refine RL.strBytes (e:=5) (hb:=by omega) (ho:=rfl) (hw:=rfl) (hN:=rfl) (hi:=rfl) (hx:=rfl) (h:=?_);intro bs cs;refine ao [_] (ho:=rfl) (h:=?_);intro b3;refine go 6 ?_;intro ob1 cap1 ho1;refine ao [] (ho:=rfl) (h:=?_);intro b4;refine go 10 ?_;rw[bE (ob:=ob1) (n':=(lb++[0#8]).length) (xs:=bytes lb++[Value.int .u8 0]) (xs':=bytes (lb++[0#8])) (by simp) (by simp;rfl),show lb.length+1=(lb++[0#8]).length by simp];generalize hM:lb++[0#8]=M;have hMl:M.length≤10000001:=by rw[←hM];simp;omega
 refine CW.loop (γ:=Nat×Option Nat×Nat) (fun g=>g.1≤8) (fun g=>[(2,.int .u64 ((n/256^g.1:Nat):Int)),(3,.pointer (some ⟨b1,0,none⟩)),(6,.pointer (some ⟨b2,0,none⟩)),(7,aE ob1 M.length cap1),(8,aE g.2.1 g.1 g.2.2),(9,.int .i64 (g.1:Int))]) (fun _=>[]) (fun g=>[own g.2.1 g.2.2 5 1 g.1 (bytes ((be8 n).drop (8-g.1))),own ob1 cap1 5 1 M.length (bytes M),cel b2 (List.replicate 32 (U8 0#8)) 31,cel b1 (bytes k) 31]) (fun g=>8-g.1) (0,some b4,0) (by simp) (.cons (by simp;rfl) (.cons rfl (.cons rfl (.cons rfl (.cons rfl (.cons rfl .nil)))))) wE ?_;rintro⟨i,ob',c'⟩ hi;dsimp only at hi ⊢;refine go 7 ?_;refine CW.cond rfl (fun hlt=>?_) (fun hlt=>?_)
 ·refine go 7 ?_;refine RL.rem rfl rfl rfl rfl rfl (h:=?_);refine bQ (ho:=rfl) (h:=?_);refine ao [_] (ho:=rfl) (h:=?_);intro b5;refine go 7 ?_;intro ob2 cap2 ho2;have hlt:i<8:=by simp at hlt;omega
  refine gp (v':=.int .u64 ((n/256^(i+1):Nat):Int)) rfl rfl rfl rfl rfl (hv:=u64_quo' _ _ hn) (h:=?_);refine go 6 ?_;refine ap rfl (ad (by omega) (by omega)) ?_;refine go 2 ?_;refine NQ.round (g:=(i,ob',c')) (i+1,ob2,cap2) hlt (by show 8-(i+1)<8-i;omega) (.cons rfl (.cons rfl (.cons rfl (.cons rfl (.cons (by rw[Nat.add_comm i 1];rfl) (.cons rfl .nil)))))) (fun w h=>?_);rw[bE (ob:=ob2) (n':=i+1) (xs':=bytes ((be8 n).drop (8-(i+1)))) (by omega) (low_byte _ _ hlt).symm] at h;exact h.rea (fun _ h=>h) rE
 ·have hi8:i=8:=by simp at hlt;omega
  subst hi8;refine go 6 ?_;refine ae (Sq.of [0,1,2,3,4,5]) [3,4,5] [3,5] [0,1,2] (h:=?_);refine go 4 ?_;intro ob2 cap2 ho2;have hcat:M++be8 n=lb++0#8::be8 n:=by rw[←hM];simp
  rw[bE (ob:=ob2) (n':=(M++be8 n).length) (xs':=bytes (M++be8 n)) (by simp[el]) (by show _=List.map U8 _;rw[List.map_append];rfl),show M.length+8=(M++be8 n).length by simp[el],hcat];refine ar (rcode_n (some ⟨b1,0,none⟩) 32 32 k hk (by decide) (ob2.map fun b=>⟨b,0,none⟩) (lb++0#8::be8 n).length cap2 (lb++0#8::be8 n) rfl (by simp[el];omega)) (hl:=Lend.all mQ (by simp[hk]) (Lend.own mQ .nil)) (h:=?_);refine go 4 ?_;exact RQ.post (cU rfl rfl KA31.h KS31.h mQ lQ) (aa _) ⟨rfl,rfl,rfl⟩
def aF(v:Value):Prop:=∃n,v=.int .i64 n
theorem keyI:KeyT Tryz.prog 3 aF where
 desc:=⟨_,KU3.h,fun a b ha hb=>by
  obtain⟨m,rfl⟩:=ha;obtain⟨n,rfl⟩:=hb
  by_cases h:m=n<;>simp[Instr.sameNow,same,h]⟩
 eq:=by
  rintro _ _ ⟨a,rfl⟩ ⟨c,rfl⟩ w
  by_cases h:a=c<;>simp[Op.equal,Op.maxDepth,same,h,Go.part,go_sem]
 chk:=by
  rintro _ ⟨a,rfl⟩ e w
  have:∀n,(Instr.checkKey e (n+2) 3 (.int .i64 a)).run Tryz.prog w=.ok () w:=by
   intro n
   simp[Instr.checkKey,Go.part,go_sem]
  exact this 9998
 bits:=by
  rintro _ ⟨a,rfl⟩
  simp[Instr.sameBits]
theorem gd{k v:Value}:∀ {c:List (Value×Value)},aO k c=none→cD k v c=c++[(k,v)]
 | [],_=>rfl
 | (a,u)::c,h=>by
  rw[aO] at h
  split at h
  ·cases h
  ·next hn=>rw[cD,if_neg hn,gd h];rfl
structure One where
 s:Nat
 k:List B8
 e:Nat
 g:Int
 b:Nat
def One.cells(o:One):List Value:=bytes o.k++[.int .u32 (o.e:Int),.int .i64 o.g]
abbrev dX(o:One):It:=cel o.b o.cells 492
def pl(s e:Int):Value:=.agg #[.int .i64 s,.int .u32 e]
def c9(v:Value):Prop:=∃s e:Int,v=pl s e
def c1(T:List One):List (Value×Value):=T.map fun o=>(.int .i64 (o.s:Int),.pointer (some ⟨o.b,0,none⟩))
theorem pl_inj{a b c d:Int}:pl a b=pl c d↔a=c∧b=d:=by simp[pl]
theorem same_pl(a b c d:Int):same (pl a b) (pl c d)=(a==c&&b==d):=by rw[Bool.eq_iff_iff,same_iff,pl_inj];simp
theorem keyP:KeyT Tryz.prog 597 c9 where
 desc:=⟨_,KU597.h,fun a b _ _=>.inl (by cases a<;>cases b<;>rfl)⟩
 eq:=by
  rintro _ _ ⟨a,b,rfl⟩ ⟨c,d,rfl⟩ w
  rw[same_pl]
  simp[pl,Op.equal,Op.maxDepth,run_equalIn_struct,Program.fieldsOf,Op.eqFields,Go.part,go_sem]
  by_cases h1:a=c<;>by_cases h2:b=d<;>simp[h1,h2]
 chk:=by
  rintro _ ⟨a,b,rfl⟩ e w
  have:∀n,(Instr.checkKey e (n+2) 597 (.agg #[.int .i64 a,.int .u32 b])).run Tryz.prog w=.ok () w:=by
   intro n
   simp[Instr.checkKey,Go.part,go_sem]
  exact this 9998
 bits:=by
  rintro _ ⟨a,b,rfl⟩
  simp[pl,Instr.sameBits]
def cE(s:Int):Bool:=decide (0≤s)&&decide (s<8)
def eM(t:Int):Bool:=decide (0≤t)&&decide (t≤1099511627776)
def atO(T:List One)(s:Int):Option One:=T.find? fun o=>(o.s:Int)==s
theorem look_c1(s:Int):∀T:List One,aO (.int .i64 s) (c1 T)=(atO T s).map fun o=>.pointer (some ⟨o.b,0,none⟩)
 | []=>rfl
 | o::T=>by
  by_cases h:(o.s:Int)=s
  ·simp[c1,aO,atO,h]
  ·have:=look_c1 s T
   simp only[c1,atO] at this
   simp[c1,aO,atO,h,Ne.symm h,this]
theorem may_any(s:Int):Spc Tryz.prog 353 #[.int .i64 s] [] [] (Is (.bool (cE s))):=by
 refine Spc.enter Tryz.func353 (h:=?_);refine fun w0 hw0=>?_;refine go 10 ?_;apply aL (d:=5) (dp:=8) (l':=(Sq.of [6])) rfl (sK [2] rfl)
 ·intro hb3 K3;refine go 3 ?_;exact K3 _ (.cons rfl (sK [2] rfl))
 ·intro hb3 K3;refine go 3 ?_;exact K3 _ (.cons rfl (sK [2] rfl))
 refine go 4 ?_;exact RQ.post (az rfl rfl) (aa _) ⟨by simp[cE],rfl,rfl⟩
theorem ktick_any(s:Int):Spc Tryz.prog 382 #[.int .i64 s] [] [] (Is (.bool (eM s))):=by
 refine Spc.enter Tryz.func382 (h:=?_);refine fun w0 hw0=>?_;refine go 10 ?_;apply aL (d:=5) (dp:=8) (l':=(Sq.of [6])) rfl (sK [2] rfl)
 ·intro hb3 K3;refine go 3 ?_;exact K3 _ (.cons rfl (sK [2] rfl))
 ·intro hb3 K3;refine go 3 ?_;exact K3 _ (.cons rfl (sK [2] rfl))
 refine go 4 ?_;exact RQ.post (az rfl rfl) (aa _) ⟨by simp[eM],rfl,rfl⟩
def cg(T:List One)(s:Int)(right:Bool):Value×Int:=if right=true∧cE s=true then match atO T s with
 | none=>(.pointer none,5)
 | some o=>(.pointer (some ⟨o.b,0,none⟩),0) else(.pointer none,2)
abbrev dh(r m1 m2:Nat):It:=cel r [.map (some m1),.map (some m2)] 452
theorem ge(r m1 m2:Nat)(T:List One)(s:Int)(right:Bool):Spc Tryz.prog 273 #[.pointer (some ⟨r,0,none⟩),.int .i64 s,.bool right] [dh r m1 m2,aN m1 aF (c1 T)] [] (Is (.tuple #[(cg T s right).1,.int .i64 (cg T s right).2])):=by
 refine Spc.enter Tryz.func273 (h:=?_);refine fun w0 hw0=>?_;refine go 11 ?_;refine bj (hr:=fb KU328.h _) (h:=go 1 ?_);apply au (d:=12) (dp:=18) (l':=(Sq.of [9])) rfl (sK [0,1,2,6,7] rfl)
 ·intro hb3 K3;refine go 4 ?_;refine bj (hr:=eql_map KU449.h _) (h:=go 1 ?_);exact K3 _ (.cons rfl (sK [0,1,2,6,7] rfl))
 ·intro hb3 K3;refine go 6 ?_;exact K3 _ (.cons rfl (sK [0,1,2,6,7] rfl))
 refine go 3 ?_;refine ag rfl ((by simp)) ?_;refine go 5 ?_;apply au (d:=22) (dp:=26) (l':=(Sq.of [7])) rfl (sK [0,1,6,7] rfl)
 ·intro hb3 K3;refine go 1 ?_;refine ab (may_any s) (h:=?_);refine go 2 ?_;exact K3 _ (.cons rfl (sK [0,1,6,7] rfl))
 ·intro hb3 K3;refine go 4 ?_;exact K3 _ (.cons rfl (sK [0,1,6,7] rfl))
 refine go 3 ?_;refine CW.cond rfl (fun hr=>?_) (fun hr=>?_)
 ·refine go 9 ?_;have hr: ¬(right=true∧cE s=true):=by rintro⟨e1,e2⟩;simp[e1,e2] at hr
  exact RQ.post (bb rfl rfl rfl) (aa _) ⟨by rw[cg,if_neg hr],rfl,rfl⟩
 ·have hr:right=true∧cE s=true:=by revert hr;cases right<;>cases cE s<;>simp
  refine go 10 ?_;refine RL.lookup keyI (ho:=rfl) (hk:=⟨s,rfl⟩) (hm:=eS mQ) (h:=?_);rw[look_c1]
  cases ho:atO T s with
  | none=>refine go 7 ?_;refine bj (hr:=fb KU488.h _) (h:=go 2 ?_);refine aI rfl ((by simp)) ?_;refine go 8 ?_;exact RQ.post (bb rfl rfl rfl) (aa _) ⟨by rw[cg,if_pos hr,ho],rfl,rfl⟩
  | some o=>refine go 7 ?_;refine bj (hr:=fb KU488.h _) (h:=go 2 ?_);refine ag rfl ((by simp)) ?_;refine go 10 ?_;exact RQ.post (bb rfl rfl rfl) (aa _) ⟨by rw[cg,if_pos hr,ho];rfl,rfl,rfl⟩
def gK:List B8:=[101#8,112#8,111#8,99#8,104#8]
theorem derive_len(k lb:List B8)(n:Nat):(d8 k lb n).length=32:=ie _ _
theorem derive_w(k:List B8)(hk:k.length=32)(lb:List B8)(hlb:lb.length≤10000000)(n:Nat)(hn:n<4294967296):Spc Tryz.prog 369 #[.agg (bytes k).toArray,.string (txt lb),.int .u64 (IntKind.u64.wrap (n:Int))] [] [] (Is (.agg (bytes (d8 k lb n)).toArray)):=by rw[show IntKind.u64.wrap (n:Int)=(n:Int) by simp[IntKind.wrap,IntKind.bits,IntKind.signed];omega];exact derive_any k hk lb hlb n (by omega)
theorem rderive_w(k:List B8)(hk:k.length=32)(lb:List B8)(hlb:lb.length≤10000000)(n:Nat)(hn:n<4294967296):Spc Tryz.prog 151 #[.agg (bytes k).toArray,.string (txt lb),.int .u64 (IntKind.u64.wrap (n:Int))] [] [] (Is (.agg (bytes (d8 k lb n)).toArray)):=by rw[show IntKind.u64.wrap (n:Int)=(n:Int) by simp[IntKind.wrap,IntKind.bits,IntKind.signed];omega];exact rderive_any k hk lb hlb n (by omega)
def keyE(k:List B8)(e:Nat):Value:=.agg (bytes (d8 k gK e)).toArray
theorem one_e{o:One}(h:o.k.length=32):o.cells[0+32]?=some (.int .u32 (o.e:Int)):=by simp[One.cells,List.getElem?_append,h]
theorem one_g{o:One}(h:o.k.length=32):o.cells[0+33]?=some (.int .i64 o.g):=by simp[One.cells,List.getElem?_append,h]
theorem one_len{o:One}(h:o.k.length=32):o.cells.length=34:=by simp[One.cells,h]
def delB(o:One)(g':Int)(s e:Int):Bool:=s==(o.s:Int)&&(!(e==(o.e:Int))||g'== -1)
theorem look_mem{k v:Value}:∀ {c:List (Value×Value)},aO k c=some v→(k,v)∈c
 | (a,u)::c,h=>by
  rw[aO] at h
  split at h
  ·next e=>subst e;cases h;exact List.Mem.head _
  ·exact List.Mem.tail _ (look_mem h)
theorem mem_look{k v:Value}:∀ {c:List (Value×Value)},(c.map (·.1)).Nodup→(k,v)∈c→aO k c=some v
 | (a,u)::c,hn,h=>by
  rw[List.map_cons,List.nodup_cons] at hn
  rw[aO]
  rcases List.mem_cons.1 h with h|h
  ·cases h;rw[if_pos rfl]
  ·rw[if_neg (fun e=>hn.1 (by rw[←e];exact List.mem_map.2 ⟨_,h,rfl⟩))];exact mem_look hn.2 h
open Classical in
theorem look_del{k k':Value}:∀ {c:List (Value×Value)},(c.map (·.1)).Nodup→aO k (iQ k' c)=if k=k' then none else aO k c
 | [],_=>by simp[iQ,aO]
 | (a,u)::c,hn=>by
  rw[List.map_cons,List.nodup_cons] at hn
  rw[iQ]
  by_cases h:k'=a
  ·subst h
   rw[if_pos rfl];simp only[aO]
   by_cases h2:k=k'
   ·subst h2
    rw[if_pos rfl]
    cases hl:aO k c with
    | none=>rfl
    | some v=>exact absurd (List.mem_map.2 ⟨_,look_mem hl,rfl⟩) hn.1
   ·simp[h2]
  ·rw[if_neg h];simp only[aO];rw[look_del hn.2]
   by_cases h2:k=a
   ·subst h2;simp[Ne.symm h]
   ·simp[h2]
theorem mem_del{k:Value}{p:Value×Value}{c:List (Value×Value)}(hn:(c.map (·.1)).Nodup)(h:p∈iQ k c):p∈c∧p.1≠k:=by have h1:=(fc (k:=k) c).subset h;refine⟨h1,fun e=>?_⟩;have h2:aO p.1 (iQ k c)=some p.2:=mem_look (hn.sublist ((fc c).map _)) h;rw[look_del hn,if_pos e] at h2;cases h2
theorem mapIt_facts{r it:Nat}{good:Value→Prop}{c left:List (Value×Value)}{w:World}(h:(df r it good c left).A w):(c.map (·.1)).Nodup∧(left.map (·.1)).Nodup∧(∀p∈left,p∈c∧good p.1):=by
 obtain⟨es,clock,since,seen,g1,g2,g3,g4,g5,g6,g7,g8,g9⟩:=h;have hsub:left.Sublist c:=by rw[g9,←g3];exact List.filter_sublist.map _
 exact⟨g4,g4.sublist (hsub.map _),fun p hp=>⟨hsub.subset hp,g5 p (hsub.subset hp)⟩⟩
theorem mapIt_ne{r it:Nat}{good:Value→Prop}{c left:List (Value×Value)}{w:World}{w0:World}{S:List Nat}{I B:List It}(h:Cls w0 S I (df r it good c left::B) w):r≠it:=fun e=>by
 have:=h.s.nd
 simp[df,e] at this
structure Went(o:One)(g':Int)(c0 c left:List (Value×Value)):Prop where
 a:∀s e v,(pl s e,v)∈c→(pl s e,v)∈left∨delB o g' s e=false
 b:∀s e,delB o g' s e=false→aO (pl s e) c=aO (pl s e) c0
theorem Went.fin{o:One}{g':Int}{c0 c:List (Value×Value)}(h:Went o g' c0 c [])(s e:Int):aO (pl s e) c=if delB o g' s e=true then none else aO (pl s e) c0:=by
 by_cases hd:delB o g' s e=true
 ·rw[if_pos hd]
  cases hl:aO (pl s e) c with
  | none=>rfl
  | some v=>
   rcases h.a s e v (look_mem hl) with h|h
   ·cases h
   ·rw[hd] at h;cases h
 ·rw[if_neg hd];exact h.b s e (by simpa using hd)
theorem mem_erase{α:Type}{l:List α}{j:Nat}{p x:α}(hp:l[j]?=some p)(hx:x∈l):x=p∨x∈l.eraseIdx j:=by
 induction l generalizing j with
 | nil=>cases hx
 | cons a l ih=>
  cases j with
  | zero=>
   simp at hp;subst hp;rcases List.mem_cons.1 hx with h|h
   ·exact .inl h
   ·exact .inr (by simpa using h)
  | succ j=>
   simp at hp;rcases List.mem_cons.1 hx with h|h
   ·exact .inr (by simp[h])
   ·rcases ih hp h with h|h
    ·exact .inl h
    ·exact .inr (by simp[h])
theorem Went.keep{o:One}{g':Int}{c0 c left:List (Value×Value)}{j:Nat}{s e:Int}{v:Value}(h:Went o g' c0 c left)(hj:left[j]?=some (pl s e,v))(hd:delB o g' s e=false):Went o g' c0 c (left.eraseIdx j):=by
 refine⟨fun s' e' v' hm=>?_,h.b⟩;rcases h.a s' e' v' hm with h|h
 ·rcases mem_erase hj h with h|h
  ·rw[Prod.mk.injEq,pl_inj] at h;obtain⟨⟨rfl,rfl⟩,-⟩:=h;exact .inr hd
  ·exact .inl h
 ·exact .inr h
theorem Went.cut{o:One}{g':Int}{c0 c left:List (Value×Value)}{j:Nat}{s e:Int}{v:Value}(h:Went o g' c0 c left)(hn:(c.map (·.1)).Nodup)(hj:left[j]?=some (pl s e,v))(hd:delB o g' s e=true):Went o g' c0 (iQ (pl s e) c) (left.eraseIdx j):=by
 refine⟨fun s' e' v' hm=>?_,fun s' e' hd'=>?_⟩
 ·obtain⟨h1,h2⟩:=mem_del hn hm;rcases h.a s' e' v' h1 with h|h
  ·rcases mem_erase hj h with h|h
   ·rw[Prod.mk.injEq] at h;exact absurd h.1 h2
   ·exact .inl h
  ·exact .inr h
 ·rw[look_del hn,if_neg (fun(he:pl s' e'=pl s e)=>by rw[pl_inj] at he;obtain⟨rfl,rfl⟩:=he;rw[hd] at hd';cases hd')];exact h.b s' e' hd'
theorem erase_nodup{α:Type}{l:List α}{j:Nat}{p:α}(hp:l[j]?=some p)(hn:l.Nodup):p∉l.eraseIdx j:=by
 induction l generalizing j with
 | nil=>simp at hp
 | cons a l ih=>
  rw[List.nodup_cons] at hn
  cases j with
  | zero=>simp at hp;subst hp;simpa using hn.1
  | succ j=>simp at hp;have hm:=List.mem_of_getElem? hp;simp only[List.eraseIdx_cons_succ,List.mem_cons,not_or];exact⟨fun e=>hn.1 (e▸hm),ih hp hn.2⟩
theorem set_e{o:One}(h:o.k.length=32)(e':Nat):bP o.cells (0+32) [.int .u32 (e':Int)]=({ o with e:=e' }:One).cells:=by
 have h':(bytes o.k).length=32:=by rw[List.length_map,h]
 rw[dH _ _ _ (by simp[One.cells,h])];simp only[One.cells];generalize bytes o.k=K at h';rw[List.take_left' (by omega),List.drop_append,List.drop_of_length_le (by simp[h']),h'];simp
theorem kset_g{o:One}(h:o.k.length=32)(g':Int):bP o.cells (0+33) [.int .i64 g']=({ o with g:=g' }:One).cells:=by
 have h':(bytes o.k).length=32:=by rw[List.length_map,h]
 rw[dH _ _ _ (by simp[One.cells,h])];simp only[One.cells];generalize bytes o.k=K at h';rw[List.take_append,List.drop_append,List.take_of_length_le (by omega),List.drop_of_length_le (by simp[h']),h'];simp
theorem one_k(o:One):∀(j:Nat) (u:Value),(bytes o.k)[j]?=some u→o.cells[0+j]?=some u:=fun j u h=>by
 have hlt:=(List.getElem?_eq_some_iff.1 h).1
 rw[Nat.zero_add,One.cells,List.getElem?_append_left hlt];exact h
theorem enter_any(r m1 m2:Nat)(o:One)(c0:List (Value×Value))(e':Nat)(g':Int)(hk:o.k.length=32)(he:o.e<4294967296)(he':e'<4294967296):Spc Tryz.prog 342 #[.pointer (some ⟨r,0,none⟩),.int .i64 (o.s:Int),.pointer (some ⟨o.b,0,none⟩),.int .u32 (e':Int),.int .i64 g'] [] [dh r m1 m2,aN m2 c9 c0,dX o] (fun v I' H'=>v=.tuple #[]∧I'=[]∧∃c,(∀s e,aO (pl s e) c=if s=(o.s:Int)∧e=(e':Int) then some (keyE o.k e') else if delB o g' s e=true then none else aO (pl s e) c0)∧H'=[aN m2 c9 c,dh r m1 m2,dX { o with e:=e',g:=g' }]):=by
 have h1:=one_e hk;have h2:=one_g hk;have h3:=one_len hk;refine Spc.enter Tryz.func342 (h:=?_);refine fun w0 hw0=>?_;refine go 7 ?_;refine RL.range KU450.h rfl rfl rfl rfl rfl rfl pE (fun it=>?_);refine go 3 ?_;refine CW.loop (γ:=List (Value×Value)×List (Value×Value)) (fun g=>Went o g' c0 g.1 g.2) (fun _=>[(0,.pointer (some ⟨r,0,none⟩)),(1,.int .i64 (o.s:Int)),(2,.pointer (some ⟨o.b,0,none⟩)),(3,.int .u32 (e':Int)),(4,.int .i64 g'),(15,.pointer (some ⟨it,0,none⟩))]) (fun _=>[]) (fun g=>[df m2 it c9 g.1 g.2,dh r m1 m2,dX o]) (fun g=>g.2.length) (c0,c0) ⟨fun _ _ _ h=>.inl h,fun _ _ _=>rfl⟩ (.cons rfl (.cons rfl (.cons rfl (.cons rfl (.cons rfl (.cons rfl .nil)))))) wE ?_;rintro⟨c,left⟩ hw;dsimp only at hw ⊢;refine aR (p:=((c.map (·.1)).Nodup∧(left.map (·.1)).Nodup∧(∀p∈left,p∈c∧c9 p.1))∧m2≠it) (fun w hC=>⟨mapIt_facts (hC.s.h _ (List.Mem.head _)),mapIt_ne hC⟩) (fun⟨⟨hn1,hn2,hn3⟩,hne⟩=>?_);refine go 2 ?_;refine RL.nextC rfl rfl rfl rfl rfl rfl (.take (ai _)) (fun hl=>?_) (fun q p hp=>?_)
 ·subst hl;refine go 4 ?_;refine ag rfl ((by simp)) ?_;refine go 6 ?_;refine CW.unrange (go 7 ?_);refine aj (cs':=({ o with e:=e' }:One).cells) (vs:=[_]) (set_e hk e') (ho:=rfl) (hl:=by rw[h3];simp) (h:=?_);refine go 2 ?_;refine aj (cs':=({ o with e:=e',g:=g' }:One).cells) (vs:=[_]) (kset_g (o:= { o with e:=e' }) hk g') (ho:=rfl) (hl:=by rw[one_len (o:= { o with e:=e' }) hk];simp) (h:=?_);refine go 2 ?_;refine ae (Sq.of [0,1,2,3,4,5,6,7,8,9,10,11,12,13,14]) [14] [14] [0,1,2,4,5,6,7,8,9,11,12] (h:=?_);refine go 10 ?_;refine RL.loadA KA31.h KS31.h rfl rfl rfl rfl (vs:=bytes o.k) (Rds.cel mQ (one_k { o with e:=e',g:=g' })) (by rw[List.length_map,hk]) ?_;refine go 2 ?_;refine ab (derive_w o.k hk gK (by decide) e' he') (h:=?_);refine RL.mapUpdate keyP (ho:=rfl) (hk:=⟨(o.s:Int),(e':Int),rfl⟩) (hup:=uE) (h:=?_);refine go 1 ?_;refine RQ.post (dn rfl) (.keep (.keep (.keep .nil))) ⟨rfl,rfl,_,fun s e=>?_,rfl⟩;by_cases h:s=(o.s:Int)∧e=(e':Int)
  ·obtain⟨rfl,rfl⟩:=h;rw[if_pos ⟨rfl,rfl⟩];show aO (pl (o.s:Int) (e':Int)) (cD (pl (o.s:Int) (e':Int)) _ c)=_;rw[fd,if_pos rfl];rfl
  ·rw[if_neg h];show aO (pl s e) (cD (pl (o.s:Int) (e':Int)) _ c)=_;rw[fd,if_neg (fun he=>h (pl_inj.1 he))];exact hw.fin s e
 ·obtain⟨-,ps,pe,hpe⟩:=hn3 p (List.mem_of_getElem? hp);obtain⟨pk,pv⟩:=p;dsimp only at hpe;subst hpe;have hnl:pl ps pe∉(left.eraseIdx q).map (·.1):=by rw[←iT];exact erase_nodup (by simp[hp]) hn2
  refine go 4 ?_;refine aI rfl ((by simp)) ?_;refine go 5 ?_;refine RL.entry rfl rfl rfl rfl (List.Mem.head _) (go 6 ?_);intro b1;refine ae (Sq.of [0,1,2,3,4,5,6,7,8,9,10,11,12,13,14,15,16]) [] [] [0,2,3,4,5,7,8,9,11,12,13,14,15,16] (h:=?_);refine go 5 ?_;refine RL.part (d:=24) rfl (fun ha=>?_) (fun ha=>?_)
  ·refine go 8 ?_;refine RL.part (d:=32) rfl (fun hb=>?_) (fun hb=>?_)
   ·refine go 6 ?_;refine aI (h:=?_);refine CW.perm (List.Perm.swap _ _ _) (CW.uncur (ae (Sq.of [0,1,2,3,4,5]) [5] [5] [0,1,2] (h:=?_)));refine go 4 ?_;refine ak (vs:=[_,_]) KA597.h KS597.h rfl rfl rfl rfl (by first|(apply Rds.cel;(solve|(repeat (first|exact List.Mem.head _|apply List.Mem.tail)));exact am ⟨rfl,rfl,trivial⟩)|(apply Rds.celI;(solve|(repeat (first|exact List.Mem.head _|apply List.Mem.tail)));exact am ⟨rfl,rfl,trivial⟩)|assumption|(apply aU;assumption)) ?_;refine RL.deleteIt keyP KU450.h rfl rfl rfl rfl rfl rfl ⟨ps,pe,rfl⟩ hnl hne uE ?_;refine go 2 ?_;refine NQ.round (g:=(c,left)) (iQ (pl ps pe) c,left.eraseIdx q) (hw.cut hn1 hp (by simp_all [delB])) (by show(left.eraseIdx q).length<left.length;rw[List.length_eraseIdx_of_lt (List.getElem?_eq_some_iff.1 hp).1];have:=(List.getElem?_eq_some_iff.1 hp).1;omega) (.cons rfl (.cons rfl (.cons rfl (.cons rfl (.cons rfl (.cons rfl .nil)))))) wE
   ·refine go 6 ?_;refine CW.cond rfl (fun hc=>?_) (fun hc=>?_)
    ·refine CW.perm (List.Perm.swap _ _ _) (CW.uncur (ae (Sq.of [0,1,2,3,4,5]) [5] [5] [0,1,2] (h:=?_)));refine go 4 ?_;refine ak (vs:=[_,_]) KA597.h KS597.h rfl rfl rfl rfl (by first|(apply Rds.cel;(solve|(repeat (first|exact List.Mem.head _|apply List.Mem.tail)));exact am ⟨rfl,rfl,trivial⟩)|(apply Rds.celI;(solve|(repeat (first|exact List.Mem.head _|apply List.Mem.tail)));exact am ⟨rfl,rfl,trivial⟩)|assumption|(apply aU;assumption)) ?_;refine RL.deleteIt keyP KU450.h rfl rfl rfl rfl rfl rfl ⟨ps,pe,rfl⟩ hnl hne uE ?_;refine go 2 ?_;refine NQ.round (g:=(c,left)) (iQ (pl ps pe) c,left.eraseIdx q) (hw.cut hn1 hp (by simp_all [delB])) (by show(left.eraseIdx q).length<left.length;rw[List.length_eraseIdx_of_lt (List.getElem?_eq_some_iff.1 hp).1];have:=(List.getElem?_eq_some_iff.1 hp).1;omega) (.cons rfl (.cons rfl (.cons rfl (.cons rfl (.cons rfl (.cons rfl .nil)))))) wE
    ·refine go 2 ?_;refine NQ.round (g:=(c,left)) (c,left.eraseIdx q) (hw.keep hp (by simp_all [delB])) (by show(left.eraseIdx q).length<left.length;rw[List.length_eraseIdx_of_lt (List.getElem?_eq_some_iff.1 hp).1];have:=(List.getElem?_eq_some_iff.1 hp).1;omega) (.cons rfl (.cons rfl (.cons rfl (.cons rfl (.cons rfl (.cons rfl .nil)))))) (fun w h=>(h.rea (H':=[mapCt m2 it c9 c (left.eraseIdx q) (pl ps pe,pv),dh r m1 m2,dX o]) (fun _ h=>h) rE).uncur)
  ·refine go 14 ?_;refine ag (h:=go 2 ?_);refine NQ.round (g:=(c,left)) (c,left.eraseIdx q) (hw.keep hp (by simp_all [delB])) (by show(left.eraseIdx q).length<left.length;rw[List.length_eraseIdx_of_lt (List.getElem?_eq_some_iff.1 hp).1];have:=(List.getElem?_eq_some_iff.1 hp).1;omega) (.cons rfl (.cons rfl (.cons rfl (.cons rfl (.cons rfl (.cons rfl .nil)))))) (fun w h=>(h.rea (H':=[mapCt m2 it c9 c (left.eraseIdx q) (pl ps pe,pv),dh r m1 m2,dX o]) (fun _ h=>h) rE).uncur)
theorem rsigned_any(f:Fr)(p:Option Addr)(c n:Nat)(hf:f.Ok)(hn:f.b.length=n)(hb:n≤900000):Spc Tryz.prog 81 #[.agg (f.cells (.slice p n c)).toArray] [sls p 1 n (bytes f.b)] [] (OwnN (14+n) f.signed):=by have hl:=dT hf.tag (.slice p n c);refine Spc.enter Tryz.func81 (h:=?_);refine fun w0 hw0=>?_;refine go 7 ?_;intro b1;refine aB (A:=[_]) (B:=[]) (.take .nil) rfl (go 3 ?_);refine bQ (ho:=rfl) (h:=go 2 ?_);refine bQ (ho:=rfl) (h:=?_);refine ao [_,_] (ho:=rfl) (h:=?_);intro b2;refine go 4 ?_;refine ae (Sq.of [0,1,2,3,6,7,4,5,8,9,10]) [4,5,8,9] [5,9] [0,1,2,3,6,7,10] (h:=?_);refine go 6 ?_;refine ax (((w64_id (n:=f.ep) (by have:=hf.ep;omega)).symm▸OwnB.n (n:=4) rfl (num13 f.ep 4 (by have:=hf.ep;omega) (by decide)))) (hb:=.inl rfl) (h:=?_);rintro _ _ _ ⟨ob1,cap1,rfl,rfl,rfl,ho1⟩;refine go 1 ?_;intro ob2 cap2 ho2;refine ax (OwnB.n (n:=8) rfl (num13 f.ct 8 hf.ct (by decide))) (hb:=.inl rfl) (h:=?_);rintro _ _ _ ⟨ob3,cap3,rfl,rfl,rfl,ho3⟩;refine go 14 ?_;intro ob4 cap4 ho4 ob5 cap5 ho5;skip;all_goals (rw[bE (n':=14+n) (xs':=bytes f.signed) (by omega) (by simp[Fr.signed])];exact RQ.post (az rfl rfl) (.keep (aa _)) ⟨_,_,rfl,rfl,rfl,by omega⟩)
theorem rfput_any(f:Fr)(p:Option Addr)(c n:Nat)(hf:f.Fit)(hn:f.b.length=n):Spc Tryz.prog 42 #[.agg (f.cells (.slice p n c)).toArray] [sls p 1 n (bytes f.b)] [] (OwnP (eA f)):=by
 subst hn;have hl:=dT hf.ok.tag (.slice p f.b.length c);have hsl:=er f;have hb:=hf.b;have h16:=hf.ok.tag;refine Spc.enter Tryz.func42 (h:=?_);refine fun w0 hw0=>?_;refine go 9 ?_;intro b1;refine aB (A:=[cel b1 (f.cells (.slice p f.b.length c)) 151]) (B:=[]) (.take .nil) rfl (CW.sub (Lies.seg (off:=0+5) (n:=f.tag.length) (xs:=bytes f.tag) (by simp) (fr_tag f _)) (List.Mem.head _) ?_);refine aW (fun J hJ=>?_);have mT:sls (some ⟨b1,0+5,none⟩) 1 f.tag.length (bytes f.tag)∈J:=hJ _ (List.Mem.head _);have m1:cel b1 (f.cells (.slice p f.b.length c)) 151∈J:=hJ _ (List.Mem.tail _ (List.Mem.head _));have mB:sls p 1 f.b.length (bytes f.b)∈J:=hJ _ (List.Mem.tail _ (List.Mem.tail _ (List.Mem.head _)));clear hJ;have f0:RdI J ⟨b1,0+0,none⟩ (.int .i64 f.kd):=⟨fun _=>Rd.celI m1 rfl⟩;have f1:RdI J ⟨b1,0+1,none⟩ (.int .i64 f.sr):=⟨fun _=>Rd.celI m1 rfl⟩;have f4:RdI J ⟨b1,0+4,none⟩ (.slice p f.b.length c):=⟨fun _=>Rd.celI m1 rfl⟩;have fA:RdsN J ⟨b1,0,none⟩ 21 (f.cells (.slice p f.b.length c)):=⟨fun _=>Rds.allI m1,hl⟩;have h1:=hf.kd;have h2:=hf.sr;refine go 5 ?_;apply au (d:=8) (dp:=12) (l':=(Sq.of [8,9,10,11,12,13,14,15,16,17])) rfl (sK [1,2,3] rfl)
 ·intro hb4 K4;refine go 4 ?_;exact K4 _ (.cons rfl (sK [1,2,3] rfl))
 ·intro hb4 K4;refine go 4 ?_;exact K4 _ (.cons rfl (sK [1,2,3] rfl))
 refine go 1 ?_;apply au (d:=13) (dp:=17) (l':=(Sq.of [13,14,15,16,17])) rfl (sK [1,2,3] rfl)
 ·intro hb9 K9;refine go 4 ?_;exact K9 _ (.cons rfl (sK [1,2,3] rfl))
 ·intro hb9 K9;refine go 4 ?_;exact K9 _ (.cons rfl (sK [1,2,3] rfl))
 refine go 1 ?_;apply au (d:=18) (dp:=22) (l':=(Sq.of [])) rfl (sK [1,2,3] rfl)
 ·intro hb14 K14;refine go 4 ?_;exact K14 _ (.cons rfl (sK [1,2,3] rfl))
 ·intro hb14 K14;refine go 4 ?_;exact K14 _ (.cons rfl (sK [1,2,3] rfl))
 refine go 2 ?_;refine ag rfl ((by simp;omega)) ?_;refine go 11 ?_;refine ag rfl ((by simp;omega)) ?_;refine go 3 ?_;refine ae (Sq.of [0,2,3,1,4,5]) [1,4] [4] [0,2,3,5] (h:=?_);refine go 3 ?_;refine av (d:=30) (v':=.slice (some ⟨b1,0+5,none⟩) f.tag.length f.tag.length) rfl (by rw[h16]) ?_;refine RL.call (rsigned_any f p c _ hf.ok rfl (by omega)) Tryz.call81 rfl rfl rfl rfl rfl pE (.inI mB .nil) (.inl rfl) ?_;rintro _ _ _ ⟨ob1,cap1,rfl,rfl,rfl,ho1⟩;refine cd KE55.h rfl rfl rfl rfl rfl rfl rfl (by first|exact⟨(.take (ai _)),rfl⟩|exact⟨(.leave (.take (ai _))),rfl⟩|exact⟨(.leave (.leave (.take (ai _)))),rfl⟩|exact⟨(.leave (.leave (.leave (.take (ai _))))),rfl⟩|exact⟨(.leave (.leave (.leave (.leave (.take (ai _)))))),rfl⟩|exact⟨(.leave (.leave (.leave (.leave (.leave (.take (ai _))))))),rfl⟩|exact⟨(.leave (.leave (.leave (.leave (.leave (.leave (.take (ai _)))))))),rfl⟩|exact⟨(.leave (.leave (.leave (.leave (.leave (.leave (.leave (.take (ai _))))))))),rfl⟩|exact⟨(.leave (.leave (.leave (.leave (.leave (.leave (.leave (.leave (.take (ai _)))))))))),rfl⟩|exact⟨(.leave (.leave (.leave (.leave (.leave (.leave (.leave (.leave (.leave (.take (ai _))))))))))),rfl⟩) (Src.sls mT) (iV fh _) (by first|omega|(simp only[maxLen];omega)) (by first|omega|(simp only[maxLen];omega)) ?_;intro ob2 cap2 ho2;refine go 4 ?_;have hst:14+f.b.length+f.tag.length=(f.signed++f.tag).length:=by rw[List.length_append,hsl]
 have hs2:(f.signed++f.tag).length=30+f.b.length:=by omega
 rw[bE (n':=(f.signed++f.tag).length) (xs':=bytes (f.signed++f.tag)) hst (by simp),hst];have hpl:=frB_len h16;have hcl:=eT (BitVec.ofInt 8 ((f.signed++f.tag).length:Int)::(f.signed++f.tag));rw[List.length_cons] at hcl;refine go 1 ?_;refine ao [_,_] (ho:=rfl) (h:=?_);intro b2;refine go 2 ?_;refine bQ (ho:=rfl) (h:=?_);refine ao [_] (ho:=rfl) (h:=?_);intro b3;refine go 2 ?_;intro ob3 cap3 ho3;refine RL.call (rput11 (ob3.map fun b=>⟨b,0,none⟩) cap3 (1+(f.signed++f.tag).length) (BitVec.ofInt 8 ((f.signed++f.tag).length:Int)::(f.signed++f.tag)) (by rw[List.length_cons];omega) (by omega)) (hl:=Lend.ownE mQ rfl rfl .nil) (hb:=.inl rfl) (h:=?_);rintro _ _ _ ⟨ob4,cap4,rfl,rfl,rfl,ho4⟩;refine go 6 ?_;intro ob5 cap5 ho5;have hfin:2+(dJ (BitVec.ofInt 8 ((f.signed++f.tag).length:Int)::(f.signed++f.tag))).length=(eA f).length:=by omega
 rw[bE (n':=(eA f).length) (xs':=bytes (eA f)) hfin (show([Value.int .u8 165,Value.int .u8 90]++bytes (dJ (BitVec.ofInt 8 ((f.signed++f.tag).length:Int)::(f.signed++f.tag))):List Value)=bytes (eA f) from rfl),hfin];exact RQ.post (bb rfl rfl rfl) (.keep (aa _)) ⟨_,_,rfl,rfl,rfl⟩
theorem wrapV_u64{n:Int}(h0:0≤n)(h1:n≤18446744073709551615):Value.int .u64 (IntKind.u64.wrap n)=.int .u64 n:=by congr 1;simp[IntKind.wrap,IntKind.bits,IntKind.signed];omega
theorem byte_rdI{J:List It}{b n j:Nat}{l:List B8}{x:B8}(hm:sls (some ⟨b,0,none⟩) 1 n (bytes l)∈J)(hx:l[j]?=some x):RdI J ⟨b,0+j*1,none⟩ (.int .u8 (x.toNat:Int)):=⟨fun H=>by
 have h:=Rds.rd (I:=J) (H:=H) (p:=⟨b,0,none⟩) (j:=j) (v:=.int .u8 (x.toNat:Int)) (Rds.sls hm) (by rw[List.getElem?_map,hx];rfl)
 rw[bn] at h
 rwa[show 0+j*1=0+j by omega]⟩
structure FrO where
 f:Fr
 ob:Option Nat
 cp:Nat
abbrev FrO.sl(x:FrO):Value:=aE x.ob x.f.b.length x.cp
abbrev FrO.cells(x:FrO):List Value:=x.f.cells x.sl
abbrev frV(x:FrO):Value:=.agg x.cells.toArray
abbrev bodyO(x:FrO):It:=own x.ob x.cp 5 1 x.f.b.length (bytes x.f.b)
structure FrO.Ok(x:FrO):Prop where
 f:x.f.Ok
 b:x.f.b.length≤100000
def fr0:Fr:=⟨0,0,0,0,[],List.replicate 16 0#8⟩
theorem ones_fro(x:FrO):dO x.cells=true:=ig _ rfl
theorem fill_one21{cs zs:List Value}(h:cs.length=21)(hz:zs.length=21):bX (fun j=>some (j*21,21)) (cT zs 1) [(0,.agg cs.toArray)]=some cs:=by refine aK [] zs [] rfl (cq _) (by simp[cT]) rfl hz h ?_;simp[bX]
def crcT(f:Fr):List B8:=crcS (crcOf (BitVec.ofInt 8 ((f.signed++f.tag).length:Int)::(f.signed++f.tag)))
theorem frB_eq(f:Fr):eA f=[165#8,90#8,BitVec.ofInt 8 ((f.signed++f.tag).length:Int),BitVec.ofInt 8 f.kd,BitVec.ofInt 8 f.sr]++(beN 4 f.ep++(beN 8 f.ct++(f.b++(f.tag++crcT f)))):=by simp[eA,dJ,crcT,Fr.signed]
theorem byteN{n:Int}(h:0≤n∧n≤255):((BitVec.ofInt 8 n).toNat:Int)=n:=by rw[BitVec.toNat_ofInt];omega
theorem frB_ep{f:Fr}:((eA f).drop 5).take 4=beN 4 f.ep:=by rw[frB_eq];show List.take 4 (beN 4 f.ep++(beN 8 f.ct++(f.b++(f.tag++crcT f))))=_;rw[List.take_left' (aw _ _)]
theorem frB_ct{f:Fr}:((eA f).drop 9).take 8=beN 8 f.ct:=by rw[frB_eq,←List.append_assoc,List.drop_left' (by simp[aw]),List.take_left' (aw _ _)]
theorem frB_body{f:Fr}:((eA f).drop 17).take f.b.length=f.b:=by rw[frB_eq,←List.append_assoc,←List.append_assoc,List.drop_left' (by simp[aw]),List.take_left' rfl]
theorem frB_crc(f:Fr):(eA f).drop 2=dJ (BitVec.ofInt 8 ((f.signed++f.tag).length:Int)::(f.signed++f.tag)):=rfl
theorem resW3{P:Program}{w0:World}{S:List Nat}{N:Fm}{E:Env}{I H:List It}{fn:Func}{tt uu xx:Tmp}{T C:TypeId}{b nn:Nat}{vs:List Value}{v2 v3:Value}(hf:fn.results= #[.cell tt T,.tmp uu,.tmp xx])(ht:E.get tt=some (.pointer (some ⟨b,0,none⟩)))(hu:E.get uu=some v2)(hx:E.get xx=some v3)(hag:∀w,(isAgg T).run P w=.ok true w)(hs:∀w,(sizeOf T).run P w=.ok nn w)(hm:PK.cel b vs C∈H)(hl:vs.length=nn):
  ∀a w,Ag N a E→Cls w0 S I H w→(results fn a.tmps).run P w=.ok (.tuple #[.agg vs.toArray,v2,v3]) w:=fun a w ha hC=>by
 have h1:=ft (P:=P) hag (by rw[hl];exact hs) (Rds.all (I:=I) hm w hC.s)
 simp[results,hf,ha.t tt _ ht,ha.t uu _ hu,ha.t xx _ hx,asAddr,h1]
def ReadR(f:Fr):Value→List It→List It→Prop:=fun v I' H'=>∃ob cap,v=.tuple #[.agg (f.cells (aE ob f.b.length cap)).toArray,.int .i64 (37+f.b.length:Int),.int .i64 0]∧I'=[]∧H'=[own ob cap 5 1 f.b.length (bytes f.b)]
theorem wrapV_u32{n:Int}(h0:0≤n)(h1:n≤4294967295):Value.int .u32 (IntKind.u32.wrap n)=.int .u32 n:=by congr 1;simp[IntKind.wrap,IntKind.bits,IntKind.signed];omega
def crcR(l:List B8):Bool:=decide (4≤l.length)&&(crcS (crcOf (l.take (l.length-4)))==l.drop (l.length-4))
theorem crcR_put(l:List B8):crcR (dJ l)=true:=by have h:=eT l;rw[crcR,h,Nat.add_sub_cancel,dJ,List.take_left' rfl,List.drop_left' rfl];simp
theorem four_eq(l1 l2:List B8)(h1:l1.length=4)(h2:l2.length=4)(x y:Operand)(w:World):(do eqGuard .eql 417 x y (.agg (bytes l1).toArray) (.agg (bytes l2).toArray);binOp .eql 417 (.agg (bytes l1).toArray) (.agg (bytes l2).toArray):Sem Value).run Tryz.prog w=.ok (.bool (l1==l2)) w:=
 eql_arr8 (e:=5) (by kernel_rfl) (ii:=Tryz.t5) (by kernel_rfl) (by kernel_rfl) KA5.h KU5.h (by kernel_rfl) l1 l2 h1 h2 w
theorem cright_any(a:Addr)(c n:Nat)(l:List B8)(hn:l.length=n)(hb:n≤900000)(hc:n≤c):Spc Tryz.prog 159 #[.slice (some a) n c] [sls (some a) 1 n (bytes l)] [] (Is (.bool (crcR l))):=by
 subst hn;refine Spc.enter Tryz.func159 (h:=?_);refine fun w0 hw0=>?_;refine go 9 ?_;refine ap rfl (ad (by omega) (by omega)) ?_;refine go 4 ?_;refine CW.sub (fw (p:=some a) (c:=c) (k:=l.length-4) (m:=l) (by omega) hc) (List.Mem.head _) ?_;refine ae (Sq.of [0,1,2,3,4,5,6,7,8,9,10,11,12,13,14]) [] [] [0,1,2,3,4,5,6,7,8,9,10,11,12,13,14] (h:=?_);refine go 3 ?_;refine RL.part (d:=9) rfl (fun h=>?_) (fun h=>?_)
 ·have h4:4≤l.length:=by simp at h;omega
  have hn4:(bytes (l.drop (l.length-4))).length=4:=by rw[List.length_map,List.length_drop];omega
  refine go 2 ?_;refine av (d:=11) (v':=.int .i64 ((l.length-4:Nat):Int)) rfl (by congr 1;omega) ?_;refine RL.slice (lo:=0) (hi:=l.length-4) (ho:=rfl) (h:=?_);refine RL.callvT (csum_any (if c=0 then some a else(some a).map (·.add (0*1))) (c-0) (l.length-4-0) (l.take (l.length-4)) (by rw[List.length_take];omega) (by omega)) Tryz.call229 rfl rfl rfl rfl (.inI (by rw[Nat.sub_zero,show(l.take (l.length-4)).length=l.length-4 by rw[List.length_take];omega];exact List.Mem.head _) .nil) ?_;refine go 2 ?_;refine av (d:=15) (v':=.int .i64 ((l.length-4:Nat):Int)) rfl (by congr 1;omega) ?_;refine RL.slice (lo:=l.length-4) (hi:=l.length) (ho:=rfl) (h:=?_);refine av (d:=16) (v':=.slice (some (a.add ((l.length-4)*1))) 4 (c-(l.length-4))) rfl (by rw[if_neg (by omega),show l.length-(l.length-4)=4 by omega];rfl) ?_;refine iC KU417.h rfl rfl rfl rfl (by first|decide|omega) ?_;refine RL.loadAT (vs:=bytes (l.drop (l.length-4))) KA417.h KS417.h rfl rfl rfl rfl (Rds.part (j:=(l.length-4)*1) (Rds.sls (List.Mem.tail _ (List.Mem.head _))) (fun q u h=>by rw[show bytes (l.drop (l.length-4))=(bytes l).drop (l.length-4) by simp,List.getElem?_drop] at h;rwa[Nat.mul_one])) hn4 ?_;refine bj rfl rfl rfl rfl rfl (four_eq _ (l.drop (l.length-4)) rfl (by rw[List.length_drop];omega) _ _) ?_;refine go 5 ?_;exact RQ.post (az rfl rfl) (aa _) ⟨by rw[crcR,decide_eq_true h4,Bool.true_and],rfl,rfl⟩
 ·have h4: ¬4≤l.length:=by simp at h;omega
  refine go 15 ?_;exact RQ.post (az rfl rfl) (aa _) ⟨by rw[crcR,decide_eq_false h4,Bool.false_and],rfl,rfl⟩
def mkC(l:List (Nat×Nat)):List Value:=l.flatMap fun m=>[.int .u32 (m.1:Int),.int .u64 (m.2:Int)]
theorem mkC_len(l:List (Nat×Nat)):(mkC l).length=2*l.length:=by
 induction l with
 | nil=>rfl
 | cons a l ih=>rw[mkC,List.flatMap_cons,List.length_append,←mkC,ih];simp;omega
theorem mkC_drop(l:List (Nat×Nat))(i:Nat):(mkC l).drop (i*2)=mkC (l.drop i):=by
 induction i generalizing l with
 | zero=>simp
 | succ i ih=>
  cases l with
  | nil=>simp[mkC]
  | cons a l=>rw[show(i+1)*2=i*2+2 by omega,List.drop_succ_cons,←ih l];rfl
structure Rc where
 sq:Nat
 ms:List (Nat×Nat)
 iv:Nat
 ky:List B8
structure Rc.Ok(r:Rc):Prop where
 sq:r.sq<4294967296
 ms:r.ms.length=8
 mb:∀m∈r.ms,m.1<4294967296∧m.2<18446744073709551616
 iv:r.iv<4294967296
 ky:r.ky.length=32
def Rc.cells(r:Rc):List Value:=.int .u32 (r.sq:Int)::(mkC r.ms++(.int .u32 (r.iv:Int)::bytes r.ky))
theorem bT{r:Rc}(h:r.Ok):r.cells.length=50:=by simp[Rc.cells,mkC_len,h.ms,h.ky]
theorem rc_iv{r:Rc}(h:r.Ok):r.cells[0+17]?=some (.int .u32 (r.iv:Int)):=by rw[Rc.cells,show 0+17=16+1 by omega,List.getElem?_cons_succ,List.getElem?_append_right (by rw[mkC_len,h.ms];omega),mkC_len,h.ms];rfl
theorem rc_mk{r:Rc}(h:r.Ok):∀j u,(mkC r.ms)[j]?=some u→r.cells[0+1+j]?=some u:=fun j u hj=>by
 have hl:=(List.getElem?_eq_some_iff.1 hj).1
 rw[Rc.cells,show 0+1+j=j+1 by omega,List.getElem?_cons_succ,List.getElem?_append_left hl,hj]
theorem rc_ky{r:Rc}(h:r.Ok):∀j u,(bytes r.ky)[j]?=some u→r.cells[0+18+j]?=some u:=fun j u hj=>by
 rw[Rc.cells,show 0+18+j=(17+j)+1 by omega,List.getElem?_cons_succ,List.getElem?_append_right (by rw[mkC_len,h.ms];omega),mkC_len,h.ms,show 17+j-2*8=j+1 by omega,List.getElem?_cons_succ,hj]
theorem mkC_ext{l:List (Nat×Nat)}{i:Nat}{m:Nat×Nat}(h:l[i]?=some m):(mkC l).toArray.extract (i*2) (i*2+2)= #[.int .u32 (m.1:Int),.int .u64 (m.2:Int)]:=by rw[List.extract_toArray,List.extract_eq_take_drop,mkC_drop];obtain⟨hl,rfl⟩:=List.getElem?_eq_some_iff.1 h;rw[List.drop_eq_getElem_cons hl,show i*2+2-i*2=2 by omega];rfl
theorem num3(N n:Nat)(hN:N<18446744073709551616)(hn:n≤8):Spc Tryz.prog 302 #[.int .u64 (N:Int),.int .i64 (n:Int)] [] [] (OwnB (beN n N)):=by
 refine Spc.enter Tryz.func302 (h:=?_);refine fun w0 hw0=>?_;refine go 7 ?_;refine ao [] (ho:=rfl) (h:=?_);intro b1;refine go 10 ?_;refine CW.loop (γ:=Nat×Option Nat×Nat) (fun g=>g.1≤n∧(g.1=0∨g.2.1.isSome=true)) (fun g=>[(0,.int .u64 ((N/256^g.1:Nat):Int)),(1,.int .i64 (n:Int)),(5,aE g.2.1 g.1 g.2.2),(6,.int .i64 (g.1:Int))]) (fun _=>[]) (fun g=>[own g.2.1 g.2.2 5 1 g.1 (bytes (beN g.1 N))]) (fun g=>n-g.1) (0,some b1,0) (by simp) (.cons (by simp;rfl) (.cons rfl (.cons rfl (.cons rfl .nil)))) (fun w h=>h) ?_;rintro⟨i,ob',c'⟩ ⟨hi,ho⟩;dsimp only at hi ho ⊢;refine go 8 ?_;refine CW.cond rfl (fun hlt=>?_) (fun hlt=>?_)
 ·refine go 7 ?_;refine RL.rem rfl rfl rfl rfl rfl (h:=?_);refine bQ (ho:=rfl) (h:=?_);refine ao [_] (ho:=rfl) (h:=?_);intro b2;refine go 7 ?_;intro ob1 cap1 ho1;have hlt:i<n:=by simp at hlt;omega
  refine gp (v':=.int .u64 ((N/256^(i+1):Nat):Int)) rfl rfl rfl rfl rfl (hv:=quoA _ _ hN) (h:=?_);refine go 6 ?_;refine ap rfl (ad (by omega) (by omega)) ?_;refine go 2 ?_;refine NQ.round (g:=(i,ob',c')) (i+1,ob1,cap1) ⟨hlt,by rw[Nat.add_comm] at ho1;exact ho1⟩ (by show n-(i+1)<n-i;omega) (.cons rfl (.cons rfl (.cons (by rw[Nat.add_comm i 1];rfl) (.cons rfl .nil)))) (fun w h=>?_);rw[bE (ob:=ob1) (n':=i+1) (xs':=bytes (beN (i+1) N)) (by omega) (by rw[beN_cons,←lowA];rfl)] at h;exact h.rea (fun _ h=>h) rE
 ·refine go 12 ?_;have hi8:i=n:=by simp at hlt;omega
  subst hi8;rw[bE (ob:=ob') (n':=(beN i N).length) (xs':=bytes (beN i N)) (aw _ _).symm rfl];exact RQ.post (az rfl rfl) (.keep .nil) ⟨ob',c',by rw[aw],rfl,rfl,by rw[aw];exact ho⟩
theorem rsput_any(a:Int):Spc Tryz.prog 221 #[.int .i32 a] [] [] (OwnB (be4 a)):=by refine Spc.enter Tryz.func221 (h:=?_);refine fun w0 hw0=>?_;refine go 10 ?_;rw[u64_of_u32,←wrap_u32_nat a];refine ax (num3 (IntKind.u32.wrap a).toNat 4 (by have:=wrap_u32_lt a;omega) (by decide)) (hb:=.inl rfl) (h:=?_);rintro _ _ _ ⟨ob,cap,rfl,rfl,rfl,ho⟩;refine go 4 ?_;exact RQ.post (az rfl rfl) (.keep .nil) ⟨ob,cap,rfl,rfl,rfl,ho⟩
theorem rsputfix_any(a:Int):Spc Tryz.prog 222 #[.int .i64 a] [] [] (OwnB (be8' a)):=by refine Spc.enter Tryz.func222 (h:=?_);refine fun w0 hw0=>?_;refine go 9 ?_;rw[←wrap_u64_nat a];refine ax (num3 (IntKind.u64.wrap a).toNat 8 (wrap_u64_lt a) (by decide)) (hb:=.inl rfl) (h:=?_);rintro _ _ _ ⟨ob,cap,rfl,rfl,rfl,ho⟩;refine go 4 ?_;exact RQ.post (az rfl rfl) (.keep .nil) ⟨ob,cap,rfl,rfl,rfl,ho⟩
def rdr(d:Nat)(p:Option Addr)(n c:Nat):It:=cel d [.slice p n c] 335
def RdR(d:Nat)(p:Option Addr)(l:List B8)(k:Nat)(v:Value):Value→List It→List It→Prop:=fun v' I' H'=>v'=v∧I'=[]∧∃p' c',H'=[rdr d p' (l.drop k).length c']∧(l.drop k).length≤c'∧Lies (sls p 1 l.length (bytes l)) (sls p' 1 (l.drop k).length (bytes (l.drop k)))
theorem take_any(d:Nat)(p:Option Addr)(n m c:Nat)(h1:n≤m)(h2:m≤c):Spc Tryz.prog 250 #[.pointer (some ⟨d,0,none⟩),.int .i64 (n:Int)] [] [rdr d p m c] (fun v I' H'=>v=.slice (if c=0 then p else p.map (·.add (0*1))) n c∧I'=[]∧H'=[rdr d (if c=n then p else p.map (·.add (n*1))) (m-n) (c-n)]):=by unfold rdr;refine Spc.enter Tryz.func250 (h:=?_);refine fun w0 hw0=>?_;refine go 12 ?_;refine RL.slice (lo:=0) (hi:=n) (ho:=rfl) (h:=?_);refine go 11 ?_;refine RL.slice (lo:=n) (hi:=m) (ho:=rfl) (h:=?_);refine go 12 ?_;exact RQ.post (az rfl rfl) (.keep .nil) ⟨rfl,rfl,rfl⟩
theorem cO(d:Nat)(p:Option Addr)(n c:Nat)(l:List B8)(hn:n≤l.length)(hc:l.length≤c)(h8:n≤8):Spc Tryz.prog 247 #[.pointer (some ⟨d,0,none⟩),.int .i64 (n:Int)] [sls p 1 l.length (bytes l)] [rdr d p l.length c] (RdR d p l n (.int .u64 (dE (l.take n):Int))):=by
 refine Spc.enter Tryz.func247 (h:=?_);refine fun w0 hw0=>?_;refine go 15 ?_;refine ax (take_any d p n l.length c hn hc) (hb:=.inr rfl) (h:=?_);rintro _ _ _ ⟨rfl,rfl,rfl⟩;refine go 5 ?_;have hs:=fw (p:=p) (c:=c) (k:=n) (m:=l) hn hc;generalize (if c=0 then p else p.map (·.add (0*1)))=q at hs ⊢;refine CW.sub hs mQ ?_;generalize hm:l.take n=m at hs ⊢;have hml:m.length=n:=by rw[←hm,List.length_take];omega
 subst hml
 refine CW.loop (γ := Nat) (fun i => i ≤ m.length) (fun i => [(5, .int .u64 (dE (m.take i) : Int)), (10, .slice q m.length c), (11, .int .i64 (m.length : Int)), (12, .int .i64 (i : Int))]) (fun _ => [sls q 1 m.length (bytes m)]) (fun _ => [rdr d (if c = m.length then p else p.map (·.add (m.length * 1))) (l.length - m.length) (c - m.length)]) (fun i => m.length - i) 0 (by omega)
   (.cons (by simp; rfl) (.cons rfl (.cons rfl (.cons rfl .nil)))) (fun w h => h.les (fun x hx => by simp at hx; simp [hx]) (Les.refl _)) ?_
 intro i hi;refine aR (p:=q=none→m.length=0) (fun w hC e=>bf (hC.s.i _ (List.Mem.head _)) e) (fun hpp=>?_);refine go 6 ?_;refine CW.cond rfl (fun hlt=>?_) (fun hlt=>?_)
 ·refine go 6 ?_;have hlt:i<m.length:=by simp at hlt;omega
  have hv:(bytes m)[i*1]?=some (U8 m[i]):=by simp[hlt]
  obtain⟨a,rfl⟩:∃a,q=some a:=by
   cases q with
   | none=>exact absurd (hpp rfl) (by omega)
   | some a=>exact⟨a,rfl⟩
  refine aS (j:=i) (ho:=rfl) (hlt:=hlt) (h:=go 6 ?_);refine RL.shl 8 (hn:=rfl) (h:=?_);refine go 8 ?_;refine ap rfl (ad (by omega) (by omega)) ?_;refine go 2 ?_;have hx:dE (m.take i)<72057594037927936:=by have h:=i4 (m.take i);rw[List.length_take,Nat.min_eq_left hi] at h;have h2:256^i≤256^7:=Nat.pow_le_pow_right (by decide) (by omega);omega
  rw[orA _ _ hx,←numB_take m i hlt];exact NQ.round (g:=i) (i+1) hlt (by omega) (.cons rfl (.cons rfl (.cons rfl (.cons rfl .nil)))) (fun w h=>h)
 ·refine go 12 ?_;have him:i=m.length:=by simp at hlt;omega
  subst him;rw[List.take_length];exact RQ.post (az rfl rfl) (.keep .nil) ⟨rfl,rfl,_,_,by rw[List.length_drop],by rw[List.length_drop];omega,fv hn hc⟩
theorem four{l:List B8}(h:4≤l.length):∃a b c d t,l=a::b::c::d::t:=by
 match l,h with
 | a::b::c::d::t,_=>exact⟨a,b,c,d,t,rfl⟩
theorem pre4(a b c d:B8)(t:List B8):∀(q:Nat) (u:Value),(bytes [a,b,c,d])[q]?=some u→(bytes (a::b::c::d::t))[0*1+q]?=some u:=by
 intro q u h
 match q,h with
 | 0,h=>exact h
 | 1,h=>exact h
 | 2,h=>exact h
 | 3,h=>exact h
 | _+4,h=>simp at h
theorem sget_any(p:Option Addr)(n c:Nat)(l:List B8)(hn:l.length=n)(h4:4≤n)(hc:n≤c):Spc Tryz.prog 327 #[.slice p n c] [sls p 1 n (bytes l)] [] (Is (.tuple #[.int .i32 (IntKind.i32.wrap (dE (l.take 4))),.int .i64 0])):=by obtain⟨x1,x2,x3,x4,t,rfl⟩:=four (l:=l) (by omega);refine cV (g:=fun p=> #[.slice p n c]) (I:=fun p=>[sls p 1 n (bytes (x1::x2::x3::x4::t))]) (H:=fun _=>[]) (R:=fun _=>Is _) (List.Mem.head _) (by omega) (fun q _=>?_);refine Spc.enter Tryz.func327 (h:=?_);refine fun w0 hw0=>?_;refine go 14 ?_;refine ag rfl ((by simp;omega)) ?_;refine go 5 ?_;refine iB (lo:=0) (hi:=4) (ho:=rfl) (hw:=rfl) (hN:=rfl) (hx:=rfl) (hl:=rfl) (hh:=rfl) (h:=?_);refine iC KU417.h rfl rfl rfl rfl (by first|decide|omega) ?_;refine ak (vs:=bytes [x1,x2,x3,x4]) (ho:=rfl) (hr:=(Rds.sls mQ).part (pre4 _ _ _ _ _)) (h:=?_);refine go 6 ?_;intro b1;refine al (j:=0) (ho:=rfl) (h:=?_);refine go 1 ?_;refine dq (ho:=rfl) (h:=?_);refine gF 24 rfl rfl rfl rfl rfl rfl (by decide) ?_;refine al (j:=1) (ho:=rfl) (h:=?_);refine go 1 ?_;refine dq (ho:=rfl) (h:=?_);refine gF 16 rfl rfl rfl rfl rfl rfl (by decide) ?_;refine aC (a:=_) (b:=_) or32 (h:=?_);refine al (j:=2) (ho:=rfl) (h:=?_);refine go 1 ?_;refine dq (ho:=rfl) (h:=?_);refine gF 8 rfl rfl rfl rfl rfl rfl (by decide) ?_;refine aC (a:=_) (b:=_) or32 (h:=?_);refine al (j:=3) (ho:=rfl) (h:=?_);refine go 1 ?_;refine dq (ho:=rfl) (h:=?_);refine aC (a:=_) (b:=_) or32 (h:=?_);refine go 6 ?_;rw[word4];exact RQ.post (bb rfl rfl rfl) (aa _) ⟨rfl,rfl,rfl⟩
theorem sgetfix_any(p:Option Addr)(n c:Nat)(l:List B8)(hn:l.length=n)(h8:8≤n)(hc:n≤c):Spc Tryz.prog 326 #[.slice p n c] [sls p 1 n (bytes l)] [] (Is (.tuple #[.int .i64 (IntKind.i64.wrap (dE (l.take 8))),.int .i64 0])):=by refine Spc.enter Tryz.func326 (h:=?_);refine fun w0 hw0=>?_;refine go 14 ?_;refine ag rfl ((by simp;omega)) ?_;refine go 5 ?_;refine ab (sget_any p n c l hn (by omega) hc) (h:=?_);refine go 10 ?_;refine RL.slice (lo:=4) (hi:=n) (ho:=rfl) (h:=?_);refine ar (sget_any (if c=4 then p else p.map (·.add (4*1))) (n-4) (c-4) (l.drop 4) (by rw[List.length_drop];omega) (by omega) (by omega)) Tryz.call327 rfl rfl rfl rfl (by have h:=Lend.sub (I:=[sls p 1 l.length (bytes l)]) (F:=[]) (fv (p:=p) (c:=c) (lo:=4) (m:=l) (by omega) (by omega)) (List.Mem.head _) .nil;rwa[List.length_drop,hn] at h) ?_;refine go 11 ?_;refine RL.shl 32 (hn:=rfl) (h:=?_);refine go 9 ?_;obtain⟨e,hA,hB⟩:=num8 (l:=l) (by omega);rw[fix_or _ _ hA hB,←e];exact RQ.post (bb rfl rfl rfl) (aa _) ⟨rfl,rfl,rfl⟩
theorem rshort_any(d:Nat)(p:Option Addr)(c:Nat)(l:List B8)(h4:4≤l.length)(hc:l.length≤c):Spc Tryz.prog 248 #[.pointer (some ⟨d,0,none⟩)] [sls p 1 l.length (bytes l)] [rdr d p l.length c] (RdR d p l 4 (.int .i32 (IntKind.i32.wrap (dE (l.take 4))))):=by refine Spc.enter Tryz.func248 (h:=?_);refine fun w0 hw0=>?_;refine go 8 ?_;refine ax (take_any d p 4 l.length c h4 hc) (hb:=.inr rfl) (h:=?_);rintro _ _ _ ⟨rfl,rfl,rfl⟩;refine ar (sget_any (if c=0 then p else p.map (·.add (0*1))) 4 c (l.take 4) (by rw[List.length_take];omega) (by decide) (by omega)) Tryz.call327 rfl rfl rfl rfl (by have h:=Lend.sub (I:=[sls p 1 l.length (bytes l)]) (F:=[rdr d (if c=4 then p else p.map (·.add (4*1))) (l.length-4) (c-4)]) (fw (p:=p) (c:=c) (k:=4) (m:=l) (by omega) (by omega)) (List.Mem.head _) .nil;rwa[show(l.take 4).length=4 by rw[List.length_take];omega] at h) ?_;refine go 14 ?_;rw[List.take_take];exact RQ.post (az rfl rfl) (.keep .nil) ⟨rfl,rfl,_,_,by rw[List.length_drop],by rw[List.length_drop];omega,fv h4 hc⟩
theorem rfix_any(d:Nat)(p:Option Addr)(c:Nat)(l:List B8)(h8:8≤l.length)(hc:l.length≤c):Spc Tryz.prog 246 #[.pointer (some ⟨d,0,none⟩)] [sls p 1 l.length (bytes l)] [rdr d p l.length c] (RdR d p l 8 (.int .i64 (IntKind.i64.wrap (dE (l.take 8))))):=by refine Spc.enter Tryz.func246 (h:=?_);refine fun w0 hw0=>?_;refine go 8 ?_;refine ax (take_any d p 8 l.length c h8 hc) (hb:=.inr rfl) (h:=?_);rintro _ _ _ ⟨rfl,rfl,rfl⟩;refine ar (sgetfix_any (if c=0 then p else p.map (·.add (0*1))) 8 c (l.take 8) (by rw[List.length_take];omega) (by decide) (by omega)) Tryz.call326 rfl rfl rfl rfl (by have h:=Lend.sub (I:=[sls p 1 l.length (bytes l)]) (F:=[rdr d (if c=8 then p else p.map (·.add (8*1))) (l.length-8) (c-8)]) (fw (p:=p) (c:=c) (k:=8) (m:=l) (by omega) (by omega)) (List.Mem.head _) .nil;rwa[show(l.take 8).length=8 by rw[List.length_take];omega] at h) ?_;refine go 14 ?_;rw[List.take_take];exact RQ.post (az rfl rfl) (.keep .nil) ⟨rfl,rfl,_,_,by rw[List.length_drop],by rw[List.length_drop];omega,fv h8 hc⟩
abbrev rdb(d:Nat)(p:Option Addr)(n c:Nat):It:=cel d [.slice p n c] 448
def RdbR(d:Nat)(p:Option Addr)(l:List B8)(k:Nat):Value→List It→List It→Prop:=fun v' I' H'=>∃X:Nat,X<18446744073709551616∧v'=.int .u64 (X:Int)∧I'=[]∧∃p' c',H'=[rdb d p' (l.drop k).length c']∧(l.drop k).length≤c'∧Lies (sls p 1 l.length (bytes l)) (sls p' 1 (l.drop k).length (bytes (l.drop k)))
theorem numB_u64{l:List B8}{n:Nat}(h:n≤8):dE (l.take n)<18446744073709551616:=by have h1:=i4 (l.take n);rw[List.length_take] at h1;have h2:256^(min n l.length)≤256^8:=Nat.pow_le_pow_right (by decide) (by omega);omega
theorem rbnum_any(d:Nat)(p:Option Addr)(n c:Nat)(l:List B8)(hn:n≤l.length)(hc:l.length≤c)(h8:n≤8):Spc Tryz.prog 259 #[.pointer (some ⟨d,0,none⟩),.int .i64 (n:Int)] [sls p 1 l.length (bytes l)] [rdb d p l.length c] (RdbR d p l n):=by
 refine Spc.enter Tryz.func259 (h:=?_);refine fun w0 hw0=>?_;refine go 18 ?_;refine RL.slice (lo:=0) (hi:=n) (ho:=rfl) (h:=?_);refine go 5 ?_;have hX:=numB_u64 (l:=l) h8;have hs:=fw (p:=p) (c:=c) (k:=n) (m:=l) hn hc;have hr:=fv (p:=p) (c:=c) (lo:=n) (m:=l) hn hc;generalize (if c=0 then p else p.map (·.add (0*1)))=q at hs ⊢;refine CW.sub hs mQ ?_;generalize hm:l.take n=m at hs hX ⊢;have hml:m.length=n:=by rw[←hm,List.length_take];omega
 refine CW.loop (γ:=Nat) (fun i=>i≤n) (fun i=>[(0,.pointer (some ⟨d,0,none⟩)),(1,.int .i64 (n:Int)),(5,.int .u64 (dE (m.take i):Int)),(13,.slice q n c),(14,.int .i64 (n:Int)),(15,.int .i64 (i:Int))]) (fun _=>[sls q 1 m.length (bytes m)]) (fun _=>[rdb d p l.length c]) (fun i=>n-i) 0 (by omega) (.cons rfl (.cons rfl (.cons (by simp;rfl) (.cons rfl (.cons rfl (.cons rfl .nil)))))) (fun w h=>h.les (fun x hx=>by simp at hx;simp[hx]) (Les.refl _)) ?_;intro i hi;refine aR (p:=q=none→m.length=0) (fun w hC e=>bf (hC.s.i _ (List.Mem.head _)) e) (fun hpp=>?_);refine go 6 ?_;refine CW.cond rfl (fun hlt=>?_) (fun hlt=>?_)
 ·refine go 6 ?_;have hlt:i<n:=by simp at hlt;omega
  have hlm:i<m.length:=by omega
  have hv:(bytes m)[i*1]?=some (U8 m[i]):=by simp[hlm]
  obtain⟨a,rfl⟩:∃a,q=some a:=by
   cases q with
   | none=>exact absurd (hpp rfl) (by omega)
   | some a=>exact⟨a,rfl⟩
  refine aS (j:=i) (ho:=rfl) (hlt:=hlt) (h:=go 6 ?_);refine RL.shl 8 (hn:=rfl) (h:=?_);refine go 8 ?_;refine ap rfl (ad (by omega) (by omega)) ?_;refine go 2 ?_;have hx:dE (m.take i)<72057594037927936:=by have h:=i4 (m.take i);rw[List.length_take,Nat.min_eq_left (by omega)] at h;have h2:256^i≤256^7:=Nat.pow_le_pow_right (by decide) (by omega);omega
  rw[orA _ _ hx,←numB_take m i hlm];exact NQ.round (g:=i) (i+1) hlt (by omega) (.cons rfl (.cons rfl (.cons rfl (.cons rfl (.cons rfl (.cons rfl .nil)))))) (fun w h=>h)
 ·refine go 13 ?_;refine RL.slice (lo:=n) (hi:=l.length) (ho:=rfl) (h:=?_);refine go 12 ?_;have him:i=n:=by simp at hlt;omega
  subst him;rw[show m.take i=m by rw[←hml];exact List.take_length];exact RQ.post (az rfl rfl) (.keep .nil) ⟨_,hX,rfl,rfl,(if c=i then p else p.map (·.add (i*1))),c-i,by rw[List.length_drop]<;>rfl,by rw[List.length_drop]<;>omega,hr⟩
def rz0:Rc:=⟨0,List.replicate 8 (0,0),0,List.replicate 32 0#8⟩
theorem rz0_ok:rz0.Ok:=⟨by decide,rfl,fun m hm=>by rw[List.eq_of_mem_replicate hm];decide,by decide,rfl⟩
theorem ms8{α:Type}:∀ {l:List α},l.length=8→∃a b c d e f g h,l=[a,b,c,d,e,f,g,h]
 | [a,b,c,d,e,f,g,h],_=>⟨a,b,c,d,e,f,g,h,rfl⟩
theorem rc_setE{r:Rc}(h:r.Ok){i:Nat}(hi:i<8)(x:Nat):bP r.cells (0+1+i*2) [.int .u32 (x:Int)]=Rc.cells { r with ms:=r.ms.set i (x,(r.ms.getD i (0,0)).2) }:=by
 obtain⟨sq,ms,iv,ky⟩:=r;obtain⟨a,b,c,d,e,f,g,k,hm⟩:=ms8 h.ms;have hm:ms=_:=hm;subst hm
 match i,hi with
 | 0,_=>rfl
 | 1,_=>rfl
 | 2,_=>rfl
 | 3,_=>rfl
 | 4,_=>rfl
 | 5,_=>rfl
 | 6,_=>rfl
 | 7,_=>rfl
theorem rc_setC{r:Rc}(h:r.Ok){i:Nat}(hi:i<8)(x:Nat):bP r.cells (0+1+i*2+1) [.int .u64 (x:Int)]=Rc.cells { r with ms:=r.ms.set i ((r.ms.getD i (0,0)).1,x) }:=by
 obtain⟨sq,ms,iv,ky⟩:=r;obtain⟨a,b,c,d,e,f,g,k,hm⟩:=ms8 h.ms;have hm:ms=_:=hm;subst hm
 match i,hi with
 | 0,_=>rfl
 | 1,_=>rfl
 | 2,_=>rfl
 | 3,_=>rfl
 | 4,_=>rfl
 | 5,_=>rfl
 | 6,_=>rfl
 | 7,_=>rfl
theorem rc_setB{r:Rc}(h:r.Ok){i:Nat}(hi:i<8)(m:Nat×Nat):bP r.cells (0+1+i*2) [.int .u32 (m.1:Int),.int .u64 (m.2:Int)]=Rc.cells { r with ms:=r.ms.set i m }:=by
 obtain⟨sq,ms,iv,ky⟩:=r;obtain⟨a,b,c,d,e,f,g,k,hm⟩:=ms8 h.ms;have hm:ms=_:=hm;subst hm
 match i,hi with
 | 0,_=>rfl
 | 1,_=>rfl
 | 2,_=>rfl
 | 3,_=>rfl
 | 4,_=>rfl
 | 5,_=>rfl
 | 6,_=>rfl
 | 7,_=>rfl
theorem spl_nil0(cs:List Value):bP cs 0 []=cs:=by cases cs<;>rfl
theorem rc_setV{r:Rc}(h:r.Ok)(x:Nat):bP r.cells (0+17) [.int .u32 (x:Int)]=Rc.cells { r with iv:=x }:=by obtain⟨sq,ms,iv,ky⟩:=r;obtain⟨a,b,c,d,e,f,g,k,hm⟩:=ms8 h.ms;have hm:ms=_:=hm;subst hm;simp only[Rc.cells,mkC,List.flatMap_cons,List.flatMap_nil,List.cons_append,List.nil_append,List.append_nil,bP,spl_nil0,Nat.zero_add]
theorem spl_all:∀ {a b:List Value},a.length=b.length→bP a 0 b=b
 | [],[],_=>rfl
 | x::a,y::b,h=>by
  have:=spl_all (a:=a) (b:=b) (by simpa using h)
  rw[bP,this]
theorem rc_setK{r:Rc}(h:r.Ok){k:List B8}(hk:k.length=32):bP r.cells (0+18) (bytes k)=Rc.cells { r with ky:=k }:=by obtain⟨sq,ms,iv,ky⟩:=r;obtain⟨a,b,c,d,e,f,g,m,hm⟩:=ms8 h.ms;have hm:ms=_:=hm;subst hm;have hky:ky.length=32:=h.ky;have:=spl_all (a:=bytes ky) (b:=bytes k) (by simp[hk,hky]);show _::_=_;simp only[Rc.cells,mkC,List.flatMap_cons,List.flatMap_nil,List.cons_append,List.nil_append,List.append_nil,bP,this]
theorem Rc.Ok.mset{r:Rc}(h:r.Ok)(i:Nat){m:Nat×Nat}(h1:m.1<4294967296)(h2:m.2<18446744073709551616):Rc.Ok { r with ms:=r.ms.set i m }:=
 ⟨h.sq,by rw[List.length_set];exact h.ms,fun q hq=>by
  rcases List.mem_or_eq_of_mem_set hq with hq|rfl
  ·exact h.mb q hq
  ·exact⟨h1,h2⟩,h.iv,h.ky⟩
theorem Rc.Ok.at{r:Rc}(h:r.Ok)(i:Nat):(r.ms.getD i (0,0)).1<4294967296∧(r.ms.getD i (0,0)).2<18446744073709551616:=by
 by_cases hi:i<r.ms.length
 ·rw[List.getD_eq_getElem?_getD,List.getElem?_eq_getElem hi];exact h.mb _ (List.getElem_mem hi)
 ·rw[List.getD_eq_getElem?_getD,List.getElem?_eq_none (by omega)];decide
theorem u32_of(X:Nat):Value.int .u32 (IntKind.u32.wrap (X:Int))=.int .u32 ((X%4294967296:Nat):Int):=by congr 1
theorem onesA{a b:List Value}(h:dO a=true)(k:dO b=true):dO (a++b)=true:=by
 induction a with
 | nil=>exact k
 | cons x a ih=>rw[dO,Bool.and_eq_true] at h;rw[List.cons_append,dO,Bool.and_eq_true];exact⟨h.1,ih h.2⟩
theorem ones_mkC:∀l:List (Nat×Nat),dO (mkC l)=true
 | []=>rfl
 | m::l=>onesA (a:=[_,_]) rfl (ones_mkC l)
theorem d9(r:Rc):dO r.cells=true:=onesA (a:=[_]) rfl (onesA (ones_mkC _) (onesA (a:=[_]) rfl (bC fh _)))
def RecW:Value→List It→List It→Prop:=fun v I' H'=>I'=[]∧H'=[]∧∃r:Rc,r.Ok∧∃e:Int,v=.tuple #[.agg r.cells.toArray,.int .i64 e]
theorem bread_any(a:Addr)(n c:Nat)(l:List B8)(hl:l.length=n)(hb:n≤900000)(hc:n≤c):Spc Tryz.prog 181 #[.slice (some a) n c] [sls (some a) 1 n (bytes l)] [] RecW:=by
 subst hl;refine Spc.enter Tryz.func181 (h:=?_);refine fun w0 hw0=>?_;refine go 13 ?_;intro b1;apply au (d:=10) (dp:=14) (l':=(Sq.of [])) rfl (sK [0,2,3] rfl)
 ·intro hb4 K4;refine go 1 ?_;refine ab (cright_any a c l.length l rfl hb hc) (h:=?_);refine go 2 ?_;exact K4 _ (.cons rfl (sK [0,2,3] rfl))
 ·intro hb4 K4;refine go 4 ?_;exact K4 _ (.cons rfl (sK [0,2,3] rfl))
 refine go 2 ?_;refine CW.cond rfl (fun h=>?_) (fun h=>?_)
 ·refine go 9 ?_;exact RQ.post (bG rfl rfl rfl KA124.h KS124.h mQ rfl) (aa _) ⟨rfl,rfl,rz0,rz0_ok,_,rfl⟩
 ·have hl:l.length=140:=by simp at h;omega
  have hl0:=Lies.refl (sls (some a) 1 l.length (bytes l));refine go 18 ?_;intro b2 b3;refine RL.call (rbnum_any b3 (some a) 4 c l (by omega) hc (by decide)) (hl:=Lend.sub hl0 mQ .nil) (hb:=.inr rfl) (h:=?_);rintro _ _ _ ⟨X,hX,rfl,rfl,p1,c1,rfl,hc1,hl1⟩;refine go 1 ?_;refine av (d:=21) rfl (u32_of X) ?_;refine go 1 ?_;refine aj (cs':=Rc.cells { rz0 with sq:=X%4294967296 }) (vs:=[_]) rfl KS51.h rfl rfl rfl rfl rfl rfl rfl rfl uE (by simp) ?_;refine go 9 ?_;have hr0:Rc.Ok { rz0 with sq:=X%4294967296 }:=⟨by show X%4294967296<_;omega,rz0_ok.ms,rz0_ok.mb,rz0_ok.iv,rz0_ok.ky⟩;generalize ({ rz0 with sq:=X%4294967296 }:Rc)=r0 at hr0 ⊢;refine CW.loop (γ:=Nat×Rc×Option Addr×Nat) (fun g=>g.1≤8∧g.2.1.Ok∧(l.drop (4+12*g.1)).length≤g.2.2.2∧Lies (sls (some a) 1 l.length (bytes l)) (sls g.2.2.1 1 (l.drop (4+12*g.1)).length (bytes (l.drop (4+12*g.1))))) (fun g=>[(2,.pointer (some ⟨b1,0,none⟩)),(4,.pointer (some ⟨b2,0,none⟩)),(5,.pointer (some ⟨b3,0,none⟩)),(23,.int .i64 (g.1:Int))]) (fun _=>[sls (some a) 1 l.length (bytes l)]) (fun g=>[rdb b3 g.2.2.1 (l.drop (4+12*g.1)).length g.2.2.2,cel b2 g.2.1.cells 124,cel b1 rz0.cells 124]) (fun g=>8-g.1) (0,r0,p1,c1) ⟨by omega,hr0,hc1,hl1⟩ (.cons rfl (.cons rfl (.cons rfl (.cons rfl .nil)))) wE ?_;rintro⟨k,r,p',c'⟩ ⟨hk,hr,hc',hl'⟩;dsimp only at hk hr hc' hl' ⊢;refine go 6 ?_;refine CW.cond rfl (fun hlt=>?_) (fun hlt=>?_)
  ·have hlt:k<8:=by simp at hlt;omega
   have e1:(l.drop (4+12*k)).drop 4=l.drop (4+12*k+4):=by rw[List.drop_drop]
   have e2:(l.drop (4+12*k+4)).drop 8=l.drop (4+12*(k+1)):=by rw[List.drop_drop];congr 1
   refine CW.sub hl' mQ ?_;refine go 14 ?_;refine RL.call (rbnum_any b3 p' 4 c' (l.drop (4+12*k)) (by rw[List.length_drop];omega) hc' (by decide)) (hl:=.inI (List.Mem.head _) .nil) (hb:=.inr rfl) (h:=?_);rintro _ _ _ ⟨x,hx,rfl,rfl,p2,c2,rfl,hc2,hl2⟩;rw[e1] at hc2 hl2 ⊢;refine go 1 ?_;refine av (d:=29) rfl (u32_of x) ?_;refine go 1 ?_;refine al (j:=k) (ho:=rfl) (hlt:=hlt) (h:=go 1 ?_);refine aj (vs:=[_]) (rc_setE hr hlt (x%4294967296)) (ho:=rfl) (hl:=by rw[bT hr];show 0+1+k*2+0+1≤50;omega) (h:=?_);refine go 2 ?_;have hr2:=hr.mset k (m:=(x%4294967296,(r.ms.getD k (0,0)).2)) (by show x%4294967296<_;omega) (hr.at k).2;generalize ({ r with ms:=r.ms.set k (x%4294967296,(r.ms.getD k (0,0)).2) }:Rc)=r2 at hr2 ⊢;refine CW.sub hl2 mQ ?_;refine go 3 ?_;refine RL.call (rbnum_any b3 p2 8 c2 (l.drop (4+12*k+4)) (by rw[List.length_drop];omega) hc2 (by decide)) (hl:=.inI (List.Mem.head _) .nil) (hb:=.inr rfl) (h:=?_);rintro _ _ _ ⟨y,hy,rfl,rfl,p3,c3,rfl,hc3,hl3⟩;rw[e2] at hc3 hl3 ⊢;refine go 1 ?_;refine al (j:=k) (ho:=rfl) (hlt:=hlt) (h:=go 1 ?_);refine aj (vs:=[_]) (rc_setC hr2 hlt y) (ho:=rfl) (hl:=by rw[bT hr2];show 0+1+k*2+1+1≤50;omega) (h:=?_);refine go 4 ?_;refine ap rfl (ad (by omega) (by omega)) ?_;refine go 2 ?_;exact NQ.round (g:=(k,r,p',c')) (k+1,{ r2 with ms:=r2.ms.set k ((r2.ms.getD k (0,0)).1,y) },p3,c3) ⟨hlt,hr2.mset k (hr2.at k).1 hy,hc3,(hl'.trans hl2).trans hl3⟩ (by show 8-(k+1)<8-k;omega) (.cons rfl (.cons rfl (.cons rfl (.cons rfl .nil)))) (fun w h=>h.les (fun x hx=>by simp at hx;simp[hx]) (Les.refl _))
  ·have hk8:k=8:=by simp at hlt;omega
   subst hk8;refine CW.sub hl' mQ ?_;refine go 8 ?_;refine RL.call (rbnum_any b3 p' 4 c' (l.drop (4+12*8)) (by rw[List.length_drop];omega) hc' (by decide)) (hl:=.inI (List.Mem.head _) .nil) (hb:=.inr rfl) (h:=?_);rintro _ _ _ ⟨x,hx,rfl,rfl,p2,c2,rfl,hc2,hl2⟩;rw[List.drop_drop] at hc2 hl2 ⊢;refine go 1 ?_;refine av (d:=42) rfl (u32_of x) ?_;refine go 1 ?_;refine aj (vs:=[_]) (rc_setV hr (x%4294967296)) (ho:=rfl) (hl:=by rw[bT hr];simp) (h:=?_);refine go 3 ?_;have hrv:Rc.Ok { r with iv:=x%4294967296 }:=⟨hr.sq,hr.ms,hr.mb,by show x%4294967296<_;omega,hr.ky⟩;generalize ({ r with iv:=x%4294967296 }:Rc)=rv at hrv ⊢;have h36:(l.drop (4+12*8+4)).length=36:=by rw[List.length_drop];omega
   have hlx:=hl'.trans hl2;have hlk:=hlx.trans (fw (p:=p2) (c:=c2) (k:=32) (m:=l.drop (4+12*8+4)) (by omega) (by omega));have hk32:((l.drop (4+12*8+4)).take 32).length=32:=by rw[List.length_take];omega
   have hkb:(bytes ((l.drop (4+12*8+4)).take 32)).length=32:=by rw[List.length_map,hk32]
   refine CW.sub hlk mQ ?_;generalize hq:(if c2=0 then p2 else p2.map (·.add (0*1)))=q at ⊢;refine aR (p:=q=none→((l.drop (4+12*8+4)).take 32).length=0) (fun w hC e=>bf (hC.s.i _ (List.Mem.head _)) e) (fun hqq=>?_)
   obtain⟨aq,rfl⟩:∃aq,q=some aq:=by
    cases q with
    | none=>have:=hqq rfl;omega
    | some a=>exact⟨a,rfl⟩
   rw[h36];refine go 5 ?_;refine RL.slice (lo:=0) (hi:=32) (ho:=rfl) (h:=?_);rw[hq];refine iC (nn:=32) KU31.h rfl rfl rfl rfl (by decide) ?_;refine ak (vs:=bytes ((l.drop (4+12*8+4)).take 32)) (hs:=by rw[hkb];exact KS31.h) (ho:=rfl) (hr:=Rds.sls mQ) (h:=?_);refine go 1 ?_;refine aj (vs:=bytes ((l.drop (4+12*8+4)).take 32)) (rc_setK hrv hk32) (by rw[hkb];exact KS31.h) rfl (h1:=bC fh _) (hl:=by rw[hkb,bT hrv];simp) (h:=?_);refine go 4 ?_;have hrk:Rc.Ok { rv with ky:=(l.drop (4+12*8+4)).take 32 }:=⟨hrv.sq,hrv.ms,hrv.mb,hrv.iv,hk32⟩;generalize ({ rv with ky:=(l.drop (4+12*8+4)).take 32 }:Rc)=rk at hrk ⊢;refine go 2 ?_;refine RL.load (ho:=rfl) (hr:=Rd.cel (cs:=rk.cells) mQ rfl) (h:=?_);refine go 3 ?_;have hlk50:=bT hrk;refine CW.cond rfl (fun hz=>?_) (fun hz=>?_)
   ·refine go 9 ?_;exact RQ.post (bG rfl rfl rfl KA124.h KS124.h mQ rfl) (aa _) ⟨rfl,rfl,rz0,rz0_ok,_,rfl⟩
   ·refine go 4 ?_;refine aT (ho:=rfl) (hl:=hlk50) (h:=?_);refine an (ho:=rfl) (h1:=d9 rk) (hv:=hlk50) (h:=?_);refine go 4 ?_;exact RQ.post (bG rfl rfl rfl KA124.h KS124.h mQ hlk50) (aa _) ⟨rfl,rfl,rk,hrk,_,rfl⟩
abbrev stC(u v:Value)(bg:Int):List Value:=[u,v,.int .i64 bg,.bool true]
abbrev stI(s:Nat)(u v:Value)(bg:Int):It:=cel s (stC u v bg) 104
structure Bk where
 p:Option Addr
 c:Nat
 l:List B8
structure Bk.Ok(b:Bk):Prop where
 n:b.l.length≤141
 c:b.l.length≤b.c
abbrev Bk.v(b:Bk):Value:=.slice b.p b.l.length b.c
abbrev Bk.it(b:Bk):It:=sls b.p 1 b.l.length (bytes b.l)
def CntW:Value→List It→List It→Prop:=fun v I' H'=>I'=[]∧H'=[]∧∃r:Rc,r.Ok∧∃a:Int,(a= -1∨a=0∨a=1)∧v=.tuple #[.int .i64 a,.agg r.cells.toArray]
theorem bis_any(s:Nat)(u v:Value)(bg:Int):Spc Tryz.prog 109 #[.pointer (some ⟨s,0,none⟩)] [stI s u v bg] [] (Is (.bool true)):=by
 refine Spc.enter Tryz.func109 (h:=?_);refine fun w0 hw0=>?_;refine go 8 ?_;refine bj (hr:=dG KU44.h _) (h:=go 1 ?_);apply aL (d:=5) (dp:=10) (l':=(Sq.of [8])) rfl (sK [2] rfl)
 ·intro hb3 K3;refine go 5 ?_;exact K3 _ (.cons rfl (sK [2] rfl))
 ·intro hb3 K3;refine go 5 ?_;exact K3 _ (.cons rfl (sK [2] rfl))
 refine go 4 ?_;exact RQ.post (az rfl rfl) (aa _) ⟨rfl,rfl,rfl⟩
theorem counts_any(s:Nat)(A B:Bk)(bg:Int)(hA:A.Ok)(hB:B.Ok):Spc Tryz.prog 110 #[.pointer (some ⟨s,0,none⟩)] [stI s A.v B.v bg,A.it,B.it] [] CntW:=by
 refine Spc.enter Tryz.func110 (h:=?_);refine fun w0 hw0=>?_;refine go 20 ?_;intro b1 b2;refine ak (vs:=[A.v,B.v]) (ho:=rfl) (hr:=Rds.celI mQ (am ⟨rfl,rfl,trivial⟩)) (h:=?_);refine go 4 ?_;refine CW.loop (γ:=Nat×Rc×Int) (fun g=>g.1≤2∧g.2.1.Ok∧(g.2.2= -1∨g.2.2=0∨g.2.2=1)) (fun g=>[(2,.int .i64 0),(3,.pointer (some ⟨b1,0,none⟩)),(4,.int .i64 g.2.2),(5,.pointer (some ⟨b2,0,none⟩)),(14,.agg #[A.v,B.v]),(15,.int .i64 (g.1:Int))]) (fun _=>[A.it,B.it]) (fun g=>[cel b2 g.2.1.cells 124,cel b1 rz0.cells 124]) (fun g=>2-g.1) (0,rz0,-1) ⟨by omega,rz0_ok,.inl rfl⟩ (.cons rfl (.cons rfl (.cons rfl (.cons rfl (.cons rfl (.cons rfl .nil)))))) (fun w h=>h.les (fun x hx=>by simp at hx;simp[hx]) (Les.refl _)) ?_;rintro⟨k,r,m⟩ ⟨hk,hr,hm⟩;dsimp only at hk hr hm ⊢;refine go 6 ?_;refine CW.cond rfl (fun hlt=>?_) (fun hlt=>?_)
 ·have hlt:k<2:=by simp at hlt;omega
  obtain⟨K,hK,hKv,hKm⟩:∃K:Bk,K.Ok∧[A.v,B.v][k]?=some K.v∧K.it∈[A.it,B.it]:=by
   match k,hlt with
   | 0,_=>exact⟨A,hA,rfl,List.mem_cons_self ..⟩
   | 1,_=>exact⟨B,hB,rfl,by simp⟩
  obtain⟨p,c,l⟩:=K;have hn:=hK.n;have hc:=hK.c;dsimp only at hn hc hKv hKm;refine CW.sub (Lies.refl _) hKm ?_;refine aR (p:=p=none→l.length=0) (fun w hC e=>bf (hC.s.i _ (List.Mem.head _)) e) (fun hp=>?_);refine go 7 ?_;refine RL.index (j:=k) (v:=.slice p l.length c) KU102.h KS55.h KA55.h rfl rfl rfl rfl rfl rfl hlt (by rw[Nat.mul_one,List.getElem?_toArray];exact hKv) ?_;refine go 6 ?_;by_cases h0:l.length=0
  ·rw[h0];refine go 5 ?_;refine av (d:=22) (v':=.bool true) rfl (rfl) ?_;refine go 7 ?_;refine aI (h:=go 5 ?_);refine ap rfl (ad (by omega) (by omega)) ?_;refine go 2 ?_;exact NQ.round (g:=(k,r,m)) (k+1,r,m) ⟨hlt,hr,hm⟩ (by show 2-(k+1)<2-k;omega) (.cons rfl (.cons rfl (.cons rfl (.cons rfl (.cons rfl (.cons rfl .nil)))))) (fun w h=>h.rea (fun _ h=>List.Mem.tail _ h) rE)
  ·obtain⟨a,rfl⟩:∃a,p=some a:=by
    cases p with
    | none=>exact absurd (hp rfl) h0
    | some a=>exact⟨a,rfl⟩
   obtain⟨x,l',rfl⟩:∃x l',l=x::l':=by
    cases l with
    | nil=>exact absurd rfl h0
    | cons x l'=>exact⟨x,l',rfl⟩
   have hv:(bytes (x::l'))[0*1]?=some (U8 x):=rfl;have hlen:(x::l').length=l'.length+1:=rfl;refine go 5 ?_;apply au (d:=22) (dp:=27) (l':=(Sq.of [])) rfl (sK [2,3,4,5,6,7,14,15] rfl)
   ·intro hb4 K4;refine go 1 ?_;refine aS (j:=0) (ho:=rfl) (h:=?_);refine go 3 ?_;exact K4 _ (.cons rfl (sK [2,3,4,5,6,7,14,15] rfl))
   ·intro hb4 K4;refine go 5 ?_;exact K4 _ (.cons rfl (sK [2,3,4,5,6,7,14,15] rfl))
   refine go 2 ?_;refine CW.cond rfl (fun hx=>?_) (fun hx=>?_)
   ·refine go 5 ?_;refine ap rfl (ad (by omega) (by omega)) ?_;refine go 2 ?_;exact NQ.round (g:=(k,r,m)) (k+1,r,m) ⟨hlt,hr,hm⟩ (by show 2-(k+1)<2-k;omega) (.cons rfl (.cons rfl (.cons rfl (.cons rfl (.cons rfl (.cons rfl .nil)))))) (fun w h=>h.rea (fun _ h=>List.Mem.tail _ h) rE)
   ·have hsl:=fv (p:=some a) (c:=c) (lo:=1) (m:=x::l') (by omega) hc;have hpa:(if c=1 then some a else(some a).map (·.add (1*1)))=some (if c=1 then a else a.add (1*1)):=by split<;>rfl
    rw[hpa] at hsl;refine go 5 ?_;refine RL.slice (lo:=1) (hi:=(x::l').length) (ho:=rfl) (h2:=hc) (h:=?_);rw[hpa];refine RL.call (bread_any (if c=1 then a else a.add (1*1)) ((x::l').length-1) (c-1) l' rfl (by omega) (by omega)) (hl:=Lend.sub hsl (List.Mem.head _) .nil) (hb:=.inl rfl) (h:=?_);rintro _ _ _ ⟨rfl,rfl,r2,hr2,e2,rfl⟩;have hl2:=bT hr2;refine go 4 ?_;intro b3;refine an (ho:=rfl) (h1:=d9 r2) (hv:=hl2) (h:=?_);refine go 8 ?_;apply aL (d:=36) (dp:=46) (l':=(Sq.of [])) rfl (sK [2,3,4,5,6,8,14,15] rfl)
    ·intro hb3 K3;refine go 3 ?_;apply au (d:=39) (dp:=45) (l':=(Sq.of [12])) rfl (sK [2,3,4,5,6,8,14,15,36] rfl)
     ·intro hb6 K6;refine go 1 ?_;refine RL.load (ho:=rfl) (hr:=Rd.cel (cs:=r2.cells) mQ rfl) (h:=?_);refine go 1 ?_;refine RL.load (ho:=rfl) (hr:=Rd.cel (cs:=r.cells) mQ rfl) (h:=?_);refine go 2 ?_;exact K6 _ (.cons rfl (sK [2,3,4,5,6,8,14,15,36] rfl))
     ·intro hb6 K6;refine go 6 ?_;exact K6 _ (.cons rfl (sK [2,3,4,5,6,8,14,15,36] rfl))
     refine go 1 ?_;exact K3 _ (.cons rfl (sK [2,3,4,5,6,8,14,15] rfl))
    ·intro hb3 K3;refine go 10 ?_;exact K3 _ (.cons rfl (sK [2,3,4,5,6,8,14,15] rfl))
    refine go 2 ?_;refine CW.cond rfl (fun hy=>?_) (fun hy=>?_)
    ·refine ae (Sq.of [0,1,2,3]) [3] [3] [0,2] (h:=?_);refine go 1 ?_;refine aT (ho:=rfl) (hl:=hl2) (h:=?_);refine go 1 ?_;refine an (ho:=rfl) (h1:=d9 r2) (hv:=hl2) (hl:=bT hr) (h:=?_);refine go 4 ?_;refine ap rfl (ad (by omega) (by omega)) ?_;refine go 2 ?_;exact NQ.round (g:=(k,r,m)) (k+1,r2,(k:Int)) ⟨hlt,hr2,by show(k:Int)= -1∨(k:Int)=0∨(k:Int)=1;omega⟩ (by show 2-(k+1)<2-k;omega) (.cons rfl (.cons rfl (.cons rfl (.cons rfl (.cons rfl (.cons rfl .nil)))))) (fun w h=>h.rea (fun _ h=>List.Mem.tail _ h) rE)
    ·refine go 4 ?_;refine ap rfl (ad (by omega) (by omega)) ?_;refine go 2 ?_;exact NQ.round (g:=(k,r,m)) (k+1,r,m) ⟨hlt,hr,hm⟩ (by show 2-(k+1)<2-k;omega) (.cons rfl (.cons rfl (.cons rfl (.cons rfl (.cons rfl (.cons rfl .nil)))))) (fun w h=>h.rea (fun _ h=>List.Mem.tail _ h) rE)
 ·have hk2:k=2:=by simp at hlt;omega
  subst hk2;have hlr:=bT hr;refine go 6 ?_;refine ae (Sq.of [0,1,2,3]) [3] [3] [0,2] (h:=?_);refine go 1 ?_;refine aT (ho:=rfl) (hl:=hlr) (h:=?_);refine go 1 ?_;refine an (ho:=rfl) (h1:=d9 r) (hv:=hlr) (h:=?_);refine go 3 ?_;exact RQ.post (resTW rfl rfl rfl KA124.h KS124.h mQ hlr) (aa _) ⟨rfl,rfl,r,hr,m,hm,rfl⟩
def BytR:Value→List It→List It→Prop:=fun v I' H'=>I'=[]∧∃ob cap,∃l:List B8,l.length=140∧v=.tuple #[aE ob 140 cap,.int .i64 0]∧H'=[own ob cap 5 1 140 (bytes l)]
theorem bbytes_any(r:Rc)(hr:r.Ok)(h0:r.sq≠0):Spc Tryz.prog 200 #[.agg r.cells.toArray] [] [] BytR:=by
 have hl:=bT hr;have hky:=hr.ky;have hsq:=hr.sq;have hiv:=hr.iv;refine Spc.enter Tryz.func200 (h:=?_);refine fun w0 hw0=>?_;refine go 9 ?_;intro b1;refine aB (A:=[_]) (B:=[]) (.take .nil) rfl (CW.sub (Lies.seg (off:=0+18) (n:=r.ky.length) (xs:=bytes r.ky) (by simp) (rc_ky hr)) (List.Mem.head _) ?_);refine aW (fun J hJ=>?_);have mK:sls (some ⟨b1,0+18,none⟩) 1 r.ky.length (bytes r.ky)∈J:=hJ _ (List.Mem.head _);have m1:cel b1 r.cells 124∈J:=hJ _ (by simp);clear hJ;have f0:RdI J ⟨b1,0+0,none⟩ (.int .u32 (r.sq:Int)):=⟨fun _=>Rd.celI m1 rfl⟩;have f1:RdsN J ⟨b1,0+1,none⟩ 16 (mkC r.ms):=aV m1 (rc_mk hr) (by rw[mkC_len,hr.ms]);have f2:RdI J ⟨b1,0+17,none⟩ (.int .u32 (r.iv:Int)):=⟨fun _=>aD m1 (rc_iv hr)⟩;refine go 6 ?_;refine ag rfl ((by simp;omega)) ?_;refine cZ (e:=5) 1 (go 7 ?_);refine av (d:=12) (v':=.int .u64 (r.sq:Int)) rfl (wrapV_u64 (by omega) (by omega)) ?_;refine RL.call (bnum_any none 0 0 4 r.sq [] rfl (by decide) (by decide) (by omega)) (hl:=.nil) (hb:=.inr rfl) (h:=?_);rintro _ _ _ ⟨rfl,ob1,cap1,rfl,rfl⟩;refine go 12 ?_;refine CW.loop (γ:=Nat×Option Nat×Nat×List B8) (fun g=>g.1≤8∧g.2.2.2.length=4+12*g.1) (fun g=>[(1,.pointer (some ⟨b1,0,none⟩)),(4,aE g.2.1 (4+12*g.1) g.2.2.1),(15,.agg (mkC r.ms).toArray),(16,.int .i64 (g.1:Int))]) (fun _=>J) (fun g=>[own g.2.1 g.2.2.1 5 1 (4+12*g.1) (bytes g.2.2.2)]) (fun g=>8-g.1) (0,ob1,cap1,[]++beN 4 r.sq) ⟨by omega,by simp[aw]⟩ (.cons rfl (.cons rfl (.cons rfl (.cons rfl .nil)))) (fun w h=>h) ?_;rintro⟨i,ob,c',m⟩ ⟨hi,hm⟩;dsimp only at hi hm ⊢;refine go 6 ?_;refine CW.cond rfl (fun hlt=>?_) (fun hlt=>?_)
 ·have hlt:i<8:=by simp at hlt;omega
  obtain⟨q,hq⟩:∃q,r.ms[i]?=some q:=⟨_,List.getElem?_eq_getElem (by rw[hr.ms];exact hlt)⟩;have hqb:=hr.mb q (List.mem_of_getElem? hq);refine go 6 ?_;refine RL.indexAgg (j:=i) (vs:= #[.int .u32 (q.1:Int),.int .u64 (q.2:Int)]) KU122.h KS121.h KA121.h rfl rfl rfl rfl rfl rfl hlt (mkC_ext hq) (go 4 ?_);intro b2;refine aB (A:=[_]) (B:=[_]) (.take (.leave .nil)) rfl ?_;refine aW (fun K hK=>?_);have m2:cel b2 [.int .u32 (q.1:Int),.int .u64 (q.2:Int)] 121∈K:=hK _ (List.Mem.head _);have g0:RdI K ⟨b2,0+0,none⟩ (.int .u32 (q.1:Int)):=⟨fun _=>Rd.celI m2 rfl⟩;have g1:RdI K ⟨b2,0+1,none⟩ (.int .u64 (q.2:Int)):=⟨fun _=>Rd.celI m2 rfl⟩;refine ae (Sq.of [0,1,2,3,5,6,4,7,8]) [4,7] [4,7] [0,1,2,3,5,6,8] (h:=?_);refine go 4 ?_;refine av (d:=22) (v':=.int .u64 (q.1:Int)) rfl (wrapV_u64 (by omega) (by omega)) ?_;refine go 2 ?_;refine RL.call (bnum_any ob c' (4+12*i) 4 q.1 m hm (by decide) (by omega) (by omega)) (hl:=.nil) (hb:=.inr rfl) (h:=?_);rintro _ _ _ ⟨rfl,ob2,cap2,rfl,rfl⟩;refine RL.call (bnum_any ob2 cap2 (4+12*i+4) 8 q.2 (m++beN 4 q.1) (by simp[aw,hm]) (by decide) (by omega) (by omega)) (hl:=.nil) (hb:=.inr rfl) (h:=?_);rintro _ _ _ ⟨rfl,ob3,cap3,rfl,rfl⟩;refine go 5 ?_;refine ap rfl (ad (by omega) (by omega)) ?_;refine go 2 ?_;exact NQ.round (g:=(i,ob,c',m)) (i+1,ob3,cap3,(m++beN 4 q.1)++beN 8 q.2) ⟨hlt,by simp[aw,hm];omega⟩ (by show 8-(i+1)<8-i;omega) (.cons rfl (.cons rfl (.cons rfl (.cons rfl .nil)))) (fun w h=>h.rea (fun x hx=>hK x (List.Mem.tail _ hx)) rE)
 ·have hi8:i=8:=by simp at hlt;omega
  subst hi8;refine go 11 ?_;refine av (d:=31) (v':=.int .u64 (r.iv:Int)) rfl (wrapV_u64 (by omega) (by omega)) ?_;refine RL.call (bnum_any ob c' (4+12*8) 4 r.iv m hm (by decide) (by decide) (by omega)) (hl:=.nil) (hb:=.inr rfl) (h:=?_);rintro _ _ _ ⟨rfl,ob2,cap2,rfl,rfl⟩;refine go 8 ?_;refine av (d:=35) (v':=.slice (some ⟨b1,0+18,none⟩) r.ky.length r.ky.length) rfl (by rw[hky]) ?_;refine cd KE55.h rfl rfl rfl rfl rfl rfl rfl (by first|exact⟨(.take (ai _)),rfl⟩|exact⟨(.leave (.take (ai _))),rfl⟩|exact⟨(.leave (.leave (.take (ai _)))),rfl⟩|exact⟨(.leave (.leave (.leave (.take (ai _))))),rfl⟩|exact⟨(.leave (.leave (.leave (.leave (.take (ai _)))))),rfl⟩|exact⟨(.leave (.leave (.leave (.leave (.leave (.take (ai _))))))),rfl⟩|exact⟨(.leave (.leave (.leave (.leave (.leave (.leave (.take (ai _)))))))),rfl⟩|exact⟨(.leave (.leave (.leave (.leave (.leave (.leave (.leave (.take (ai _))))))))),rfl⟩|exact⟨(.leave (.leave (.leave (.leave (.leave (.leave (.leave (.leave (.take (ai _)))))))))),rfl⟩|exact⟨(.leave (.leave (.leave (.leave (.leave (.leave (.leave (.leave (.leave (.take (ai _))))))))))),rfl⟩) (Src.sls mK) (iV fh _) (by first|omega|(simp only[maxLen];omega)) (by first|omega|(simp only[maxLen];omega)) ?_;intro ob3 cap3 ho3;rw[show bytes (m++beN 4 r.iv)++bytes r.ky=bytes ((m++beN 4 r.iv)++r.ky) by simp];refine RL.call (cput_any (ob3.map fun b=>⟨b,0,none⟩) cap3 (4+12*8+4+r.ky.length) ((m++beN 4 r.iv)++r.ky) (by simp[aw,hm,hky]) (by omega)) (hl:=Lend.own mQ .nil) (hb:=.inl rfl) (h:=?_);rintro _ _ _ ⟨ob1,cap1,rfl,rfl,rfl,ho1⟩;refine go 5 ?_;have e140:(dJ ((m++beN 4 r.iv)++r.ky)).length=140:=by simp[eT,aw,hm,hky]
  rw[e140];exact RQ.rea (fun _ h=>h) (H':=[own ob1 cap1 5 1 140 (bytes (dJ ((m++beN 4 r.iv)++r.ky)))]) rE (RQ.post (bb rfl rfl rfl) (.keep .nil) ⟨rfl,ob1,cap1,_,e140,rfl,rfl⟩)
structure Bn where
 ob:Option Nat
 cap:Nat
 l:List B8
def Bn.Ok(b:Bn):Prop:=b.l.length=141∨(b.ob=none∧b.cap=0∧b.l=[])
abbrev Bn.v(b:Bn):Value:=aE b.ob b.l.length b.cap
abbrev Bn.it(b:Bn):It:=own b.ob b.cap 5 1 b.l.length (bytes b.l)
abbrev Bn.bk(b:Bn):Bk:=⟨b.ob.map fun q=>⟨q,0,none⟩,b.cap,b.l⟩
def bn0:Bn:=⟨none,0,[]⟩
theorem bn0_ok:bn0.Ok:=.inr ⟨rfl,rfl,rfl⟩
theorem Bn.Ok.n{b:Bn}(h:b.Ok):b.l.length≤141:=by
 rcases h with h|⟨_,_,h⟩
 ·omega
 ·rw[h];simp
abbrev StL(s:Nat)(A B:Bn)(bg:Int):List It:=[stI s A.v B.v bg,A.it,B.it]
structure StOk(A B:Bn)(bg:Int):Prop where
 a:A.Ok
 b:B.Ok
 bg:bg= -1∨(bg=0∧A.l.length=141)∨(bg=1∧B.l.length=141)
def StW(s:Nat):Value→List It→List It→Prop:=fun v I' H'=>I'=[]∧∃e:Int,v=.int .i64 e∧∃A B bg,StOk A B bg∧H'=StL s A B bg
theorem bknew_any:Spc Tryz.prog 8 #[] [] [] (fun v I' H'=>∃s,v=.pointer (some ⟨s,0,none⟩)∧I'=[]∧H'=[stI s bn0.v bn0.v (-1)]):=by refine Spc.enter Tryz.func8 (h:=?_);refine fun w0 hw0=>?_;refine go 13 ?_;intro b1;exact RQ.post (az rfl rfl) (.keep .nil) ⟨_,rfl,rfl,rfl⟩
theorem bnext_any(r:Rc)(hr:r.Ok):Spc Tryz.prog 125 #[.agg r.cells.toArray] [] [] (fun v I' H'=>I'=[]∧H'=[]∧∃n:Nat,n≠0∧n<4294967296∧v=.int .u32 (n:Int)):=by
 have hl:=bT hr;have hsq:=hr.sq;refine Spc.enter Tryz.func125 (h:=?_);refine fun w0 hw0=>?_;refine go 10 ?_;intro b1;refine RL.load (ho:=rfl) (hr:=Rd.cel (cs:=r.cells) mQ rfl) (h:=?_);refine go 3 ?_;refine CW.cond rfl (fun h=>?_) (fun h=>?_)
 ·refine go 7 ?_;exact RQ.post (az rfl rfl) (aa _) ⟨rfl,rfl,4294967295,by decide,by decide,rfl⟩
 ·have h:r.sq≠4294967295:=by simp at h;omega
  refine go 5 ?_;refine RL.load (ho:=rfl) (hr:=Rd.cel (cs:=r.cells) mQ rfl) (h:=?_);refine ap rfl (wrapV_u32 (by omega) (by omega)) ?_;refine go 4 ?_;exact RQ.post (az rfl rfl) (aa _) ⟨rfl,rfl,r.sq+1,by omega,by omega,by rw[Int.natCast_add];rfl⟩
theorem blose_any(s:Nat)(u v:Value)(bg:Int):Spc Tryz.prog 111 #[.pointer (some ⟨s,0,none⟩)] [] [stI s u v bg] (fun r I' H'=>r=.tuple #[]∧I'=[]∧H'=[stI s u v (-1)]):=by refine Spc.enter Tryz.func111 (h:=?_);refine fun w0 hw0=>?_;refine go 3 ?_;refine ar (bis_any s u v bg) (hl:=Lend.inH mQ .nil) (h:=?_);refine go 9 ?_;exact NQ.post (dn rfl) (.keep .nil) ⟨rfl,rfl,rfl⟩
theorem bempty_new(s:Nat)(bg:Int):Spc Tryz.prog 112 #[.pointer (some ⟨s,0,none⟩)] [stI s bn0.v bn0.v bg] [] (Is (.bool true)):=by
 have h0:bn0.l.length=0:=rfl;refine Spc.enter Tryz.func112 (h:=?_);refine fun w0 hw0=>?_;refine go 6 ?_;refine ae (Sq.of [0,1,2,3,4,5,6,7,8,9,10,11,12,13,14,15,16,17,18]) [] [] [0,2,3,4,5,6,8,9,10,11,12,14,15,16,17,18] (h:=?_);refine go 1 ?_;refine ab (bis_any s bn0.v bn0.v bg) (h:=?_);refine go 1 ?_;apply aL (d:=5) (dp:=20) (l':=(Sq.of [18])) rfl (sK [2] rfl)
 ·intro hb3 K3;refine go 3 ?_;refine al (j:=0) (ho:=rfl) (h:=?_);refine go 5 ?_;refine al (j:=1) (ho:=rfl) (h:=?_);refine go 2 ?_;refine ap rfl (ad (by omega) (by omega)) ?_;refine go 2 ?_;exact K3 _ (.cons rfl (sK [2] rfl))
 ·intro hb3 K3;refine go 15 ?_;exact K3 _ (.cons rfl (sK [2] rfl))
 refine go 4 ?_;exact RQ.post (az rfl rfl) (aa _) ⟨rfl,rfl,rfl⟩
theorem brec_any(s:Nat)(A B:Bk)(bg:Int)(hA:A.Ok)(hB:B.Ok):Spc Tryz.prog 60 #[.pointer (some ⟨s,0,none⟩)] [stI s A.v B.v bg,A.it,B.it] [] (fun v I' H'=>I'=[]∧H'=[]∧∃r:Rc,r.Ok∧∃e:Int,e≠1∧v=.tuple #[.agg r.cells.toArray,.int .i64 e]):=by
 refine Spc.enter Tryz.func60 (h:=?_);refine fun w0 hw0=>?_;refine go 10 ?_;intro b1;refine ar (bis_any s A.v B.v bg) (hl:=Lend.inI mQ .nil) (h:=?_);refine go 9 ?_;refine RL.call (counts_any s A B bg hA hB) (hl:=Lend.inI mQ (.inI mQ (.inI mQ .nil))) (hb:=.inl rfl) (h:=?_);rintro _ _ _ ⟨rfl,rfl,r,hr,a,ha,rfl⟩;have hl:=bT hr;refine go 5 ?_;intro b2;refine an (ho:=rfl) (h1:=d9 r) (hv:=hl) (h:=?_);refine go 9 ?_;refine CW.cond rfl (fun h=>?_) (fun h=>?_)
 ·refine go 9 ?_;exact RQ.post (bG rfl rfl rfl KA124.h KS124.h mQ rfl) (aa _) ⟨rfl,rfl,rz0,rz0_ok,_,by decide,rfl⟩
 ·refine go 4 ?_;refine aT (ho:=rfl) (hl:=hl) (h:=?_);refine an (ho:=rfl) (h1:=d9 r) (hv:=hl) (h:=?_);refine go 4 ?_;exact RQ.post (bG rfl rfl rfl KA124.h KS124.h mQ hl) (aa _) ⟨rfl,rfl,r,hr,_,by decide,rfl⟩
theorem seal_set(x:B8)(l:List B8):bP (bytes (x::l)) (0*1) [.int .u8 165]=bytes (165#8::l):=by show _::bP (bytes l) 0 []=_;rw[spl_nil0];rfl
theorem bn_some{K:Bn}{w:World}(hn:K.l.length=141)(h:K.it.A w):K.ob=none→False:=fun e=>by
 have h:(own K.ob K.cap 5 1 K.l.length (bytes K.l)).A w:=h
 rw[e] at h
 have:=dW h
 omega
theorem bfin_any(s:Nat)(A B:Bn)(bg:Int)(h:StOk A B bg):Spc Tryz.prog 123 #[.pointer (some ⟨s,0,none⟩)] [] (StL s A B bg) (StW s):=by
 refine Spc.enter Tryz.func123 (h:=?_);refine fun w0 hw0=>?_;refine go 10 ?_;refine ar (bis_any s A.v B.v bg) (hl:=Lend.inH mQ .nil) (h:=?_);refine go 15 ?_;have hA:=h.a;have hB:=h.b;rcases h.bg with hb|⟨hb,hn⟩|⟨hb,hn⟩
 ·subst hb;refine go 9 ?_;exact RQ.post (az rfl rfl) (.keep (.keep (.keep .nil))) ⟨rfl,_,rfl,A,B,-1,⟨hA,hB,.inl rfl⟩,rfl⟩
 ·subst hb;refine aR (p:=A.ob=none→False) (fun w hC=>bn_some hn (hC.s.h _ mQ)) (fun hob=>?_);obtain⟨oa,ca,la⟩:=A;dsimp only at hob hn
  cases oa with
  | none=>exact(hob rfl).elim
  | some b=>
  obtain⟨x,l',rfl⟩:∃x l',la=x::l':=by
   cases la with
   | nil=>cases hn
   | cons x l'=>exact⟨x,l',rfl⟩
  have hlen:(x::l').length=l'.length+1:=rfl;refine go 5 ?_;refine ae (Sq.of [0,1,2,3,4,5,6,7,8,9,10]) [10] [10] [0,1,2,3,5,6,7,9] (h:=?_);refine go 7 ?_;refine al (j:=0) (ho:=rfl) (h:=?_);refine go 1 ?_;refine aS (j:=0) (ho:=rfl) (hlt:=Nat.succ_pos _) (h:=?_);refine gv (off:=0*1) (vs:=[_]) (seal_set x l') KS5.h rfl rfl rfl rfl rfl rfl rfl rfl rfl (by simp) uE ?_;refine go 16 ?_;exact RQ.post (az rfl rfl) (.keep (.keep (.keep .nil))) ⟨rfl,_,rfl,⟨some b,ca,165#8::l'⟩,B,-1,⟨.inl hn,hB,.inl rfl⟩,rfl⟩
 ·subst hb;refine aR (p:=B.ob=none→False) (fun w hC=>bn_some hn (hC.s.h _ mQ)) (fun hob=>?_);obtain⟨oa,ca,la⟩:=B;dsimp only at hob hn
  cases oa with
  | none=>exact(hob rfl).elim
  | some b=>
  obtain⟨x,l',rfl⟩:∃x l',la=x::l':=by
   cases la with
   | nil=>cases hn
   | cons x l'=>exact⟨x,l',rfl⟩
  have hlen:(x::l').length=l'.length+1:=rfl;refine go 5 ?_;refine ae (Sq.of [0,1,2,3,4,5,6,7,8,9,10]) [10] [10] [0,1,2,3,5,6,7,9] (h:=?_);refine go 7 ?_;refine al (j:=1) (ho:=rfl) (h:=?_);refine go 1 ?_;refine aS (j:=0) (ho:=rfl) (hlt:=Nat.succ_pos _) (h:=?_);refine gv (off:=0*1) (vs:=[_]) (seal_set x l') KS5.h rfl rfl rfl rfl rfl rfl rfl rfl rfl (by simp) uE ?_;refine go 16 ?_;exact RQ.post (az rfl rfl) (.keep (.keep (.keep .nil))) ⟨rfl,_,rfl,A,⟨some b,ca,165#8::l'⟩,-1,⟨hA,.inl hn,.inl rfl⟩,rfl⟩
theorem bbegin_any(s:Nat)(A B:Bn)(bg:Int)(r:Rc)(h:StOk A B bg)(hr:r.Ok)(h0:r.sq≠0):Spc Tryz.prog 130 #[.pointer (some ⟨s,0,none⟩),.agg r.cells.toArray] [] (StL s A B bg) (StW s):=by
 have hl:=bT hr;refine Spc.enter Tryz.func130 (h:=?_);refine fun w0 hw0=>?_;refine go 10 ?_;intro b1;refine ar (bis_any s A.v B.v bg) (hl:=Lend.inH mQ .nil) (h:=?_);refine go 8 ?_;refine aT (ho:=rfl) (hl:=hl) (h:=?_);refine RL.call (bbytes_any r hr h0) (hl:=.nil) (hb:=.inl rfl) (h:=?_);rintro _ _ _ ⟨rfl,ob,cap,l,hl140,rfl,rfl⟩;refine go 15 ?_;refine aR (p:=A.l.length≤A.cap∧B.l.length≤B.cap) (fun w hC=>⟨iY (hC.s.h A.it mQ),iY (hC.s.h B.it mQ)⟩) (fun hcp=>?_);have hA:=h.a;have hB:=h.b;refine go 5 ?_;refine RL.call (counts_any s A.bk B.bk bg ⟨hA.n,hcp.1⟩ ⟨hB.n,hcp.2⟩) (hl:=Lend.inH mQ (Lend.own mQ (Lend.own mQ .nil))) (hb:=.inl rfl) (h:=?_);rintro _ _ _ ⟨rfl,rfl,r2,hr2,at2,hat,rfl⟩;have hl2:=bT hr2;refine go 5 ?_;intro b2;refine an (ho:=rfl) (h1:=d9 r2) (hv:=hl2) (h:=?_);refine go 17 ?_;refine CW.cond rfl (fun hz=>?_) (fun hz=>?_)
 ·have e141:1+140=(0#8::l).length:=by simp[hl140]
  have e142:[Value.int .u8 0]++bytes l=bytes (0#8::l):=rfl;refine go 8 ?_;refine ae (.cons 0 (.cons 1 (.cons 2 (.cons 3 (.cons 6 (.cons 8 (.cons 9 (.fork [4,5] (fun k=>(bif Nat.beq k 4 then(Sq.of [5,7,10,11]) else(.fork [4,7] (fun k=>(bif Nat.beq k 4 then(Sq.of [7,10,11]) else(Sq.of [4,10,11])))))))))))))) [5,7,11] [7,11] [0,1,2,3,6,8,9,10] (h:=?_);refine go 7 ?_;refine RL.fork ⟨?_,?_,trivial⟩
  ·refine go 1 ?_;refine ao [_] (ho:=rfl) (h:=?_);intro b3;refine go 1 ?_;intro ob1 cap1 ho1;refine al (j:=1) (ho:=rfl) (h:=?_);rw[bE (ob:=ob1) e141 e142,e141];refine go 10 ?_;exact RQ.rea (fun _ h=>h) (H':=StL s A ⟨ob1,cap1,0#8::l⟩ 1) rE (RQ.post (az rfl rfl) (.keep (.keep (.keep .nil))) ⟨rfl,_,rfl,A,⟨ob1,cap1,0#8::l⟩,1,⟨hA,.inl e141.symm,.inr (.inr ⟨rfl,e141.symm⟩)⟩,rfl⟩)
  ·refine ao [_] (ho:=rfl) (h:=?_);intro b3;refine RL.fork ⟨?_,?_,trivial⟩
   ·refine go 2 ?_;intro ob1 cap1 ho1;refine al (j:=1) (ho:=rfl) (h:=?_);rw[bE (ob:=ob1) e141 e142,e141];refine go 10 ?_;exact RQ.rea (fun _ h=>h) (H':=StL s A ⟨ob1,cap1,0#8::l⟩ 1) rE (RQ.post (az rfl rfl) (.keep (.keep (.keep .nil))) ⟨rfl,_,rfl,A,⟨ob1,cap1,0#8::l⟩,1,⟨hA,.inl e141.symm,.inr (.inr ⟨rfl,e141.symm⟩)⟩,rfl⟩)
   ·refine go 2 ?_;intro ob1 cap1 ho1;refine al (j:=1) (ho:=rfl) (h:=?_);rw[bE (ob:=ob1) e141 e142,e141];refine go 10 ?_;exact RQ.rea (fun _ h=>h) (H':=StL s A ⟨ob1,cap1,0#8::l⟩ 1) rE (RQ.post (az rfl rfl) (.keep (.keep (.keep .nil))) ⟨rfl,_,rfl,A,⟨ob1,cap1,0#8::l⟩,1,⟨hA,.inl e141.symm,.inr (.inr ⟨rfl,e141.symm⟩)⟩,rfl⟩)
 ·have e141:1+140=(0#8::l).length:=by simp[hl140]
  have e142:[Value.int .u8 0]++bytes l=bytes (0#8::l):=rfl;refine go 3 ?_;refine ae (.cons 0 (.cons 1 (.cons 2 (.cons 3 (.cons 6 (.cons 8 (.cons 9 (.fork [4,5] (fun k=>(bif Nat.beq k 4 then(Sq.of [5,7,10,11]) else(.fork [4,7] (fun k=>(bif Nat.beq k 4 then(Sq.of [7,10,11]) else(Sq.of [4,10,11])))))))))))))) [5,7,11] [7,11] [0,1,2,3,6,8,9,10] (h:=?_);refine go 7 ?_;refine RL.fork ⟨?_,?_,trivial⟩
  ·refine go 1 ?_;refine ao [_] (ho:=rfl) (h:=?_);intro b3;refine go 1 ?_;intro ob1 cap1 ho1;refine al (j:=0) (ho:=rfl) (h:=?_);rw[bE (ob:=ob1) e141 e142,e141];refine go 10 ?_;exact RQ.rea (fun _ h=>h) (H':=StL s ⟨ob1,cap1,0#8::l⟩ B 0) rE (RQ.post (az rfl rfl) (.keep (.keep (.keep .nil))) ⟨rfl,_,rfl,⟨ob1,cap1,0#8::l⟩,B,0,⟨.inl e141.symm,hB,.inr (.inl ⟨rfl,e141.symm⟩)⟩,rfl⟩)
  ·refine ao [_] (ho:=rfl) (h:=?_);intro b3;refine RL.fork ⟨?_,?_,trivial⟩
   ·refine go 2 ?_;intro ob1 cap1 ho1;refine al (j:=0) (ho:=rfl) (h:=?_);rw[bE (ob:=ob1) e141 e142,e141];refine go 10 ?_;exact RQ.rea (fun _ h=>h) (H':=StL s ⟨ob1,cap1,0#8::l⟩ B 0) rE (RQ.post (az rfl rfl) (.keep (.keep (.keep .nil))) ⟨rfl,_,rfl,⟨ob1,cap1,0#8::l⟩,B,0,⟨.inl e141.symm,hB,.inr (.inl ⟨rfl,e141.symm⟩)⟩,rfl⟩)
   ·refine go 2 ?_;intro ob1 cap1 ho1;refine al (j:=0) (ho:=rfl) (h:=?_);rw[bE (ob:=ob1) e141 e142,e141];refine go 10 ?_;exact RQ.rea (fun _ h=>h) (H':=StL s ⟨ob1,cap1,0#8::l⟩ B 0) rE (RQ.post (az rfl rfl) (.keep (.keep (.keep .nil))) ⟨rfl,_,rfl,⟨ob1,cap1,0#8::l⟩,B,0,⟨.inl e141.symm,hB,.inr (.inl ⟨rfl,e141.symm⟩)⟩,rfl⟩)
end Go.Proofs.YthlchaldjekokaaGreat
namespace Go.PK
theorem Spc.bundle{P:Program}{f:FuncId}{args:Array Value}{I H:List It}{R:Value→List It→List It→Prop}(h:Spc P f args I H R):Spc P f args I [allI H] (fun v I' H'=>∃H0,R v I' H0∧H'=[allI H0]):=fun w hw=>by
 have hb:bss [allI H]=bss H:=by rw[fe,List.append_nil]
 have hs:Sat I H w:=⟨hw.i,fun x hx=>hw.h _ (List.mem_singleton.2 rfl) x hx,by rw[←hb];exact hw.nd,by rw[←hb];exact hw.dj⟩
 refine(h w hs).mono ?_
 rintro e w' ⟨v,I',H',rfl,hr,hk,hs',h1,h2⟩
 have hb':bss [allI H']=bss H':=by rw[fe,List.append_nil]
 refine⟨v,I',[allI H'],rfl,⟨H',hr,rfl⟩,by rw[hb];exact hk,⟨hs'.i,fun x hx=>?_,by rw[hb'];exact hs'.nd,by rw[hb'];exact hs'.dj⟩,by rw[hb',hb];exact h1,by rw[hb];exact h2⟩
 rw[List.mem_singleton.1 hx]
 exact hs'.h
theorem Spc.bundleX{P:Program}{f:FuncId}{args:Array Value}{I H:List It}{R:Value→List It→List It→Prop}(h:Spc P f args I H R)(hn:∀v I',¬R v I' []):Spc P f args I [allI H] (fun v I' H'=>∃x H0,R v I' (x::H0)∧H'=[x,allI H0]):=fun w hw=>by
 have hb:bss [allI H]=bss H:=by rw[fe,List.append_nil]
 have hs:Sat I H w:=⟨hw.i,fun x hx=>hw.h _ (List.mem_singleton.2 rfl) x hx,by rw[←hb];exact hw.nd,by rw[←hb];exact hw.dj⟩
 refine(h w hs).mono ?_
 rintro e w' ⟨v,I',H',rfl,hr,hk,hs',h1,h2⟩
 cases H' with
 | nil=>exact(hn _ _ hr).elim
 | cons x H0=>
 have hb':bss [x,allI H0]=bss (x::H0):=by rw[bM,fe,List.append_nil,bM]
 refine⟨v,I',[x,allI H0],rfl,⟨x,H0,hr,rfl⟩,by rw[hb];exact hk,⟨hs'.i,fun y hy=>?_,by rw[hb'];exact hs'.nd,by rw[hb'];exact hs'.dj⟩,by rw[hb',hb];exact h1,by rw[hb];exact h2⟩
 rcases List.mem_cons.1 hy with rfl|hy
 ·exact hs'.h _ (List.mem_cons_self ..)
 ·rw[List.mem_singleton.1 hy]
  exact fun z hz=>hs'.h z (List.mem_cons_of_mem _ hz)
theorem bss_split(H:List It)(k:Nat):bss (H.take k++[allI (H.drop k)])=bss H:=by rw[cY,fe,List.append_nil,←cY,List.take_append_drop]
theorem Spc.bundleN{P:Program}{f:FuncId}{args:Array Value}{I H:List It}{R:Value→List It→List It→Prop}(k j:Nat)(h:Spc P f args I H R):Spc P f args I (H.take k++[allI (H.drop k)]) (fun v I' H'=>∃H0,R v I' H0∧H'=H0.take j++[allI (H0.drop j)]):=fun w hw=>by
 have hb:=bss_split H k
 have hs:Sat I H w:=⟨hw.i,fun x hx=>by
  rw[←List.take_append_drop k H] at hx
  rcases List.mem_append.1 hx with hx|hx
  ·exact hw.h x (List.mem_append_left _ hx)
  ·exact hw.h (allI (H.drop k)) (List.mem_append_right _ (List.mem_singleton.2 rfl)) x hx,by rw[←hb];exact hw.nd,by rw[←hb];exact hw.dj⟩
 refine(h w hs).mono ?_
 rintro e w' ⟨v,I',H',rfl,hr,hk,hs',h1,h2⟩
 have hb':=bss_split H' j
 refine⟨v,I',H'.take j++[allI (H'.drop j)],rfl,⟨H',hr,rfl⟩,by rw[hb];exact hk,⟨hs'.i,fun x hx=>?_,by rw[hb'];exact hs'.nd,by rw[hb'];exact hs'.dj⟩,by rw[hb',hb];exact h1,by rw[hb];exact h2⟩
 rcases List.mem_append.1 hx with hx|hx
 ·exact hs'.h x (List.mem_of_mem_take hx)
 ·rw[List.mem_singleton.1 hx]
  exact fun y hy=>hs'.h y (List.mem_of_mem_drop hy)
theorem Spc.toldB{P:Program}{f:FuncId}{args:Array Value}{J H:List It}{R:Value→List It→List It→Prop}(h:Spc P f args (H++J) [] R):Spc P f args (allI H::J) [] R:=fun w hw=>by
 refine h w ⟨fun x hx=>?_,hw.h,hw.nd,fun b _ hb=>by cases hb⟩
 rcases List.mem_append.1 hx with hx|hx
 ·exact hw.i _ (List.mem_cons_self ..) x hx
 ·exact hw.i _ (List.mem_cons_of_mem _ hx)
end Go.PK
namespace Go.Proofs.YthlchaldjekokaaGreat
open Go.PK
theorem dm{x:It}{l:List It}(h:x∈l):Lies (PK.allI l) x:=⟨fun _ hA=>hA x h,fun b hb=>mem_bss.2 ⟨x,h,hb⟩⟩
theorem iE{x y:It}{I F J:List It}(hs:Lies x y)(hm:x∈F)(h:Lend I F J):Lend I F (y::J):=.of (fun _ hw=>hs.A _ (hw.h _ hm)) (fun _ hc=>.inr (mem_bss.2 ⟨x,hm,hs.bs _ hc⟩)) h
theorem frget_any(q:Option Addr)(n c:Nat)(m:List B8)(hn:m.length=n)(h8:n≤8):Spc Tryz.prog 160 #[.slice q n c] [sls q 1 n (bytes m)] [] (Is (.int .u64 (dE m:Int))):=by
 subst hn;refine Spc.enter Tryz.func160 (h:=?_);refine fun w0 hw0=>?_;refine go 19 ?_;refine CW.loop (γ:=Nat) (fun i=>i≤m.length) (fun i=>[(3,.int .u64 (dE (m.take i):Int)),(6,.slice q m.length c),(7,.int .i64 (m.length:Int)),(8,.int .i64 (i:Int))]) (fun _=>[sls q 1 m.length (bytes m)]) (fun _=>[]) (fun i=>m.length-i) 0 (by omega) (.cons (by simp;rfl) (.cons rfl (.cons rfl (.cons rfl .nil)))) (fun w h=>h.les (fun x hx=>by simp at hx;simp[hx]) (Les.refl _)) ?_;intro i hi;refine aR (p:=q=none→m.length=0) (fun w hC e=>bf (hC.s.i _ (List.Mem.head _)) e) (fun hpp=>?_);refine go 6 ?_;refine CW.cond rfl (fun hlt=>?_) (fun hlt=>?_)
 ·refine go 6 ?_;have hlt:i<m.length:=by simp at hlt;omega
  have hv:(bytes m)[i*1]?=some (U8 m[i]):=by simp[hlt]
  obtain⟨a,rfl⟩:∃a,q=some a:=by
   cases q with
   | none=>exact absurd (hpp rfl) (by omega)
   | some a=>exact⟨a,rfl⟩
  refine aS (j:=i) (ho:=rfl) (hlt:=hlt) (h:=go 6 ?_);refine RL.shl 8 (hn:=rfl) (h:=?_);refine go 8 ?_;refine ap rfl (ad (by omega) (by omega)) ?_;refine go 2 ?_;have hx:dE (m.take i)<72057594037927936:=by have h:=i4 (m.take i);rw[List.length_take,Nat.min_eq_left hi] at h;have h2:256^i≤256^7:=Nat.pow_le_pow_right (by decide) (by omega);omega
  rw[orA _ _ hx,←numB_take m i hlt];exact NQ.round (g:=i) (i+1) hlt (by omega) (.cons rfl (.cons rfl (.cons rfl (.cons rfl .nil)))) (fun w h=>h)
 ·refine go 12 ?_;have him:i=m.length:=by simp at hlt;omega
  subst him;rw[List.take_length];exact RQ.post (az rfl rfl) (aa _) ⟨rfl,rfl,rfl⟩
theorem clone_any(p:Option Addr)(n c:Nat)(l:List B8)(hn:l.length=n)(hb:n≤1000000000):Spc Tryz.prog 161 #[.slice p n c] [sls p 1 n (bytes l)] [] (OwnB l):=by
 subst hn;refine Spc.fact (p:=p=none→l.length=0) (fun w hw e=>bf (hw.i _ (List.Mem.head _)) e) (fun hpp=>?_)
 cases p with
 | none=>have h0:=hpp rfl;refine Spc.enter Tryz.func161 (h:=?_);refine fun w0 hw0=>?_;refine go 9 ?_;refine bj (hr:=eql_slice KU55.h _ _ _) (h:=go 10 ?_);refine dx (e:=5) 1 ?_;rw[List.length_eq_zero_iff.1 h0];exact RQ.post (az rfl rfl) (.keep .nil) ⟨none,0,rfl,rfl,rfl,.inl rfl⟩
 | some a=>refine Spc.enter Tryz.func161 (h:=?_);refine fun w0 hw0=>?_;refine go 9 ?_;refine bj (hr:=eql_slice KU55.h _ _ _) (h:=go 7 ?_);refine ao [] (ho:=rfl) (h:=?_);intro b1;refine go 6 ?_;intro ob1 cap1 ho1;rw[bE (Nat.zero_add l.length) (List.nil_append _)];exact RQ.post (az rfl rfl) (.keep .nil) ⟨ob1,cap1,by rw[Nat.zero_add],rfl,rfl,by simpa using ho1⟩
theorem frB_at{f:Fr}:(eA f)[0]?=some 165#8∧(eA f)[1]?=some 90#8∧(eA f)[2]?=some (BitVec.ofInt 8 ((f.signed++f.tag).length:Int))∧(eA f)[3]?=some (BitVec.ofInt 8 f.kd)∧(eA f)[4]?=some (BitVec.ofInt 8 f.sr):=by rw[frB_eq];exact⟨rfl,rfl,rfl,rfl,rfl⟩
theorem frB_2{J:List It}{b n:Nat}{f:Fr}(hf:f.Fit)(m2:sls (some ⟨b,0,none⟩) 1 n (bytes (eA f))∈J):RdI J ⟨b,0+2*1,none⟩ (.int .u8 (30+f.b.length:Int)):=by
 have hbl:=hf.b;have hst:(f.signed++f.tag).length=30+f.b.length:=by rw[List.length_append,er,hf.ok.tag];omega
 have:=byte_rdI (j:=2) m2 (x:=BitVec.ofInt 8 ((f.signed++f.tag).length:Int)) frB_at.2.2.1;rwa[byteN (by omega),show((f.signed++f.tag).length:Int)=30+f.b.length by omega] at this
theorem begins_any(b c n:Nat)(f:Fr)(hf:f.Fit)(hn:(eA f).length=n)(hc:n≤c):Spc Tryz.prog 158 #[.slice (some ⟨b,0,none⟩) n c] [sls (some ⟨b,0,none⟩) 1 n (bytes (eA f))] [] (Is (.bool true)):=by
 subst hn;have hpl:=frB_len hf.ok.tag;have hbl:=hf.b;refine Spc.enter Tryz.func158 (h:=?_);refine fun w0 hw0=>?_;refine go 7 ?_;refine aW (fun J hJ=>?_);have m2:sls (some ⟨b,0,none⟩) 1 (eA f).length (bytes (eA f))∈J:=hJ _ (List.Mem.head _);clear hJ;have g0:RdI J ⟨b,0+0*1,none⟩ (.int .u8 165):=byte_rdI (j:=0) (x:=165#8) m2 frB_at.1;have g1:RdI J ⟨b,0+1*1,none⟩ (.int .u8 90):=byte_rdI (j:=1) (x:=90#8) m2 frB_at.2.1;have g2:=frB_2 hf m2;refine go 6 ?_;refine ag rfl ((by simp;omega)) ?_;refine go 5 ?_;refine aP (j:=2) (ho:=rfl) (h:=?_);refine go 2 ?_;refine av (d:=13) rfl (ad (by omega) (by omega)) ?_;refine go 6 ?_;refine aP (j:=0) (ho:=rfl) (h:=?_);refine go 3 ?_;apply aL (d:=18) (dp:=23) (l':=(Sq.of [10,11,12,13,14,15,16,17,18])) rfl (sK [3] rfl)
 ·intro hb5 K5;refine go 1 ?_;refine aP (j:=1) (ho:=rfl) (h:=?_);refine go 3 ?_;exact K5 _ (.cons rfl (sK [3] rfl))
 ·intro hb5 K5;refine go 5 ?_;exact K5 _ (.cons rfl (sK [3] rfl))
 refine go 1 ?_;apply aL (d:=24) (dp:=27) (l':=(Sq.of [14,15,16,17,18])) rfl (sK [3] rfl)
 ·intro hb11 K11;refine go 3 ?_;exact K11 _ (.cons rfl (sK [3] rfl))
 ·intro hb11 K11;refine go 3 ?_;exact K11 _ (.cons rfl (sK [3] rfl))
 refine go 1 ?_;apply aL (d:=28) (dp:=31) (l':=(Sq.of [18])) rfl .nil
 ·intro hb15 K15;refine go 3 ?_;exact K15 _ (.cons rfl .nil)
 ·intro hb15 K15;refine go 3 ?_;exact K15 _ (.cons rfl .nil)
 refine go 4 ?_;exact RQ.post (az rfl rfl) (aa _) ⟨by simp;omega,rfl,rfl⟩
theorem Lies.at{b c lo k:Nat}{m l:List B8}(hk:lo+k≤m.length)(hc:m.length≤c)(h1:lo<m.length)(hl:(m.drop lo).take k=l)(hn:l.length=k):Lies (sls (some ⟨b,0,none⟩) 1 m.length (bytes m)) (sls (some ⟨b,lo,none⟩) 1 k (bytes l)):=by
 have h:=Lies.part (p:=some ⟨b,0,none⟩) (c:=c) (lo:=lo) (k:=k) (m:=m) hk hc;rw[hl,hn,if_neg (by omega)] at h;have e:(some (⟨b,0,none⟩:Addr)).map (·.add (lo*1))=some ⟨b,lo,none⟩:=by rw[Option.map_some,bn,Nat.zero_add,Nat.mul_one]
 rwa[e] at h
theorem frB_tagL{f:Fr}(h:f.tag.length=16):((eA f).drop (17+f.b.length)).take 16=f.tag:=by rw[frB_eq,←List.append_assoc,←List.append_assoc,←List.append_assoc,List.drop_left' (by simp[aw];omega),List.take_left' h]
theorem fr_spl{f:Fr}(h:f.tag.length=16)(sl:Value):bP ([.int .i64 f.kd,.int .i64 f.sr,.int .u32 (f.ep:Int),.int .u64 (f.ct:Int),sl]++List.replicate 16 (U8 0#8)) (0+5) (bytes f.tag)=f.cells sl:=by rw[dH _ _ _ (by simp[h])];simp[Fr.cells,h]
theorem sub_at{b c lo lo' at_ k k':Nat}(h:c-at_≠lo)(h2:at_+lo=lo')(hk:k=k'):Value.slice (if c-at_=lo then some ⟨b,at_,none⟩ else(some (⟨b,at_,none⟩:Addr)).map (·.add (lo*1))) k (c-at_-lo)=.slice (some ⟨b,lo',none⟩) k' (c-lo'):=by subst h2 hk;rw[if_neg h,Option.map_some,bn,Nat.mul_one,Nat.sub_sub]
set_option maxHeartbeats 1000000 in
theorem fread_any(b c n:Nat)(f:Fr)(hf:f.Fit)(hn:(eA f).length=n)(hc:n≤c):Spc Tryz.prog 89 #[.slice (some ⟨b,0,none⟩) n c] [sls (some ⟨b,0,none⟩) 1 n (bytes (eA f))] [] (ReadR f):=by
 subst hn;have h16:=hf.ok.tag;have hpl:=frB_len h16;have hbl:=hf.b;have hep:=hf.ok.ep;have hct:=hf.ok.ct;have hk:=hf.kd;have hs:=hf.sr;have hcl:=eT (BitVec.ofInt 8 ((f.signed++f.tag).length:Int)::(f.signed++f.tag));have hd2:=frB_crc f;have hcl2:(dJ (BitVec.ofInt 8 ((f.signed++f.tag).length:Int)::(f.signed++f.tag))).length=35+f.b.length:=by rw[←hd2,List.length_drop];omega
 refine Spc.enter Tryz.func89 (h:=?_);refine fun w0 hw0=>?_;refine go 1 ?_;refine CW.sub (Lies.at (b:=b) (c:=c) (lo:=2) (k:=35+f.b.length) (m:=eA f) (by omega) hc (by omega) (by rw[hd2,List.take_of_length_le (by omega)]) hcl2) (List.Mem.head _) ?_;refine CW.sub (Lies.at (b:=b) (c:=c) (lo:=5) (k:=4) (m:=eA f) (by omega) hc (by omega) frB_ep (aw _ _)) (List.Mem.tail _ (List.Mem.head _)) ?_;refine CW.sub (Lies.at (b:=b) (c:=c) (lo:=9) (k:=8) (m:=eA f) (by omega) hc (by omega) frB_ct (aw _ _)) (List.Mem.tail _ (List.Mem.tail _ (List.Mem.head _))) ?_;refine CW.sub (Lies.at (b:=b) (c:=c) (lo:=17) (k:=f.b.length) (m:=eA f) (by omega) hc (by omega) frB_body rfl) (List.Mem.tail _ (List.Mem.tail _ (List.Mem.tail _ (List.Mem.head _)))) ?_;refine CW.sub (Lies.at (b:=b) (c:=c) (lo:=17+f.b.length) (k:=16) (m:=eA f) (by omega) hc (by omega) (frB_tagL h16) h16) (List.Mem.tail _ (List.Mem.tail _ (List.Mem.tail _ (List.Mem.tail _ (List.Mem.head _))))) ?_;refine aW (fun J hJ=>?_);have mT:=hJ _ (List.Mem.head _);have m17:=hJ _ (List.Mem.tail _ (List.Mem.head _));have m9:=hJ _ (List.Mem.tail _ (List.Mem.tail _ (List.Mem.head _)));have m5:=hJ _ (List.Mem.tail _ (List.Mem.tail _ (List.Mem.tail _ (List.Mem.head _))));have mC:=hJ _ (List.Mem.tail _ (List.Mem.tail _ (List.Mem.tail _ (List.Mem.tail _ (List.Mem.head _)))));have m2:=hJ _ (List.Mem.tail _ (List.Mem.tail _ (List.Mem.tail _ (List.Mem.tail _ (List.Mem.tail _ (List.Mem.head _))))));clear hJ;have g2:=frB_2 hf m2;have gT:RdsN J ⟨b,17+f.b.length,none⟩ 16 (bytes f.tag):=⟨fun _=>Rds.sls mT,by simp[h16]⟩;have hg5:=frget_any (some ⟨b,5,none⟩) 4 (c-5) (beN 4 f.ep) (aw _ _) (by decide);rw[num_beN,Nat.mod_eq_of_lt (show f.ep<256^4 by omega)] at hg5;have hg9:=frget_any (some ⟨b,9,none⟩) 8 (c-9) (beN 8 f.ct) (aw _ _) (by decide);rw[num_beN,Nat.mod_eq_of_lt (show f.ct<256^8 by omega)] at hg9;have g3:RdI J ⟨b,3+0*1,none⟩ (.int .u8 f.kd):=by have:=byte_rdI (j:=3) m2 frB_at.2.2.2.1;rwa[byteN hf.kd] at this
 have g4:RdI J ⟨b,3+1*1,none⟩ (.int .u8 f.sr):=by have:=byte_rdI (j:=4) m2 frB_at.2.2.2.2;rwa[byteN hf.sr] at this
 refine go 6 ?_;intro b1;refine CW.scope (γ:=Unit) 0 (fun _=>False) (fun _=>[]) (fun _=>[]) (fun _=>[]) rfl ?_ (fun _ he=>he.elim);refine go 20 ?_;intro b2;refine ar (begins_any b c _ f hf rfl hc) (hl:=.inI m2 .nil) (h:=go 19 ?_);refine ag rfl ((by simp;omega)) ?_;refine go 5 ?_;refine aP (j:=2) (ho:=rfl) (h:=?_);refine go 2 ?_;refine av (d:=18) rfl (ad (by omega) (by omega)) ?_;refine ap rfl (ad (by omega) (by omega)) ?_;refine ap rfl (ad (by omega) (by omega)) ?_;refine go 12 ?_;refine ag rfl ((by simp;omega)) ?_;refine go 12 ?_;refine av (d:=26) (v':=.int .i64 ((37+f.b.length:Nat):Int)) rfl (by congr 1;omega) ?_;refine RL.slice (lo:=2) (hi:=37+f.b.length) (ho:=rfl) (h:=?_);refine av (d:=27) (v':=.slice (some ⟨b,2,none⟩) (35+f.b.length) (c-2)) rfl (sub_at (c:=c) (at_:=0) (lo:=2) (by omega) rfl (by omega)) ?_;refine ar (cright_any ⟨b,2,none⟩ (c-2) (35+f.b.length) _ hcl2 (by omega) (by omega)) Tryz.call159 rfl rfl rfl rfl (.inI mC .nil) ?_;refine go 3 ?_;refine ag rfl ((by rw[crcR_put];rfl)) ?_;refine go 6 ?_;refine ap rfl (ad (by omega) (by omega)) ?_;refine av (d:=32) (v':=.int .i64 ((33+f.b.length:Nat):Int)) rfl (by congr 1;omega) ?_;refine RL.slice (lo:=3) (hi:=33+f.b.length) (ho:=rfl) (h:=?_);refine av (d:=33) (v':=.slice (some ⟨b,3,none⟩) (30+f.b.length) (c-3)) rfl (sub_at (c:=c) (at_:=0) (lo:=3) (by omega) rfl (by omega)) ?_;refine go 4 ?_;refine ae (Sq.of [0,1,2,3,4,5,6,7,8,9,10,11]) [9,11] [9,11] [0,1,2,3,4,5,6,7,8,10] (h:=?_);refine go 1 ?_;refine aP (j:=0) (ho:=rfl) (h:=?_);refine go 2 ?_;refine av (d:=37) rfl (ad (by omega) (by omega)) ?_;refine go 1 ?_;refine aP (j:=1) (ho:=rfl) (h:=?_);refine go 2 ?_;refine av (d:=41) rfl (ad (by omega) (by omega)) ?_;refine go 7 ?_;refine ae (Sq.of [0,1,2,3,4,5,6,7,8,9,10]) [8,10] [8,10] [0,1,2,3,4,5,6,7,9] (h:=?_);refine go 1 ?_;refine RL.slice (lo:=2) (hi:=6) (ho:=rfl) (h:=?_);refine av (d:=45) (v':=.slice (some ⟨b,5,none⟩) (4) (c-5)) rfl (sub_at (c:=c) (at_:=3) (lo:=2) (by omega) rfl (by omega)) ?_;refine RL.callvT (hg5) Tryz.call160 rfl rfl rfl rfl (.inI m5 .nil) (go 1 ?_);refine av (d:=47) rfl (wrapV_u32 (by omega) (by omega)) ?_;refine go 1 ?_;refine RL.slice (lo:=6) (hi:=14) (ho:=rfl) (h:=?_);refine av (d:=49) (v':=.slice (some ⟨b,9,none⟩) (8) (c-9)) rfl (sub_at (c:=c) (at_:=3) (lo:=6) (by omega) rfl (by omega)) ?_;refine RL.callvT (hg9) Tryz.call160 rfl rfl rfl rfl (.inI m9 .nil) (go 11 ?_);refine ap rfl (ad (by omega) (by omega)) ?_;refine av (d:=56) (v':=.int .i64 ((14+f.b.length:Nat):Int)) rfl (by congr 1;omega) ?_;refine RL.slice (lo:=14) (hi:=14+f.b.length) (ho:=rfl) (h:=?_);refine av (d:=57) (v':=.slice (some ⟨b,17,none⟩) f.b.length (c-17)) rfl (sub_at (c:=c) (at_:=3) (lo:=14) (by omega) rfl (by omega)) ?_;refine RL.call (OwnB.n rfl (clone_any (some ⟨b,17,none⟩) f.b.length (c-17) f.b rfl (by omega))) (hl:=.inI m17 .nil) (hb:=.inl rfl) (h:=?_);rintro _ _ _ ⟨ob1,cap1,rfl,rfl,rfl,ho1⟩;refine go 9 ?_;refine ap rfl (ad (by omega) (by omega)) ?_;refine av (d:=63) (v':=.int .i64 ((14+f.b.length:Nat):Int)) rfl (by congr 1;omega) ?_;refine RL.slice (lo:=14+f.b.length) (hi:=30+f.b.length) (ho:=rfl) (h:=?_);refine av (d:=64) (v':=.slice (some ⟨b,17+f.b.length,none⟩) 16 (c-(17+f.b.length))) rfl (sub_at (c:=c) (at_:=3) (lo:=14+f.b.length) (by omega) (by omega) (by omega)) ?_;refine iC KU149.h rfl rfl rfl rfl (by first|decide|omega) ?_;refine RL.loadM KA149.h KS149.h rfl rfl rfl rfl gT (go 1 ?_);refine aj (fr_spl h16 _) (gT.len▸KS149.h) rfl (h1:=bC fh _) (hl:=by simp[h16]) (h:=?_);refine go 5 ?_;refine aT (ho:=rfl) (hl:=dT h16 _) (h:=?_);refine go 1 ?_;refine an (ho:=rfl) (h1:=ig _ rfl) (hv:=dT h16 _) (h:=?_);refine go 6 ?_;refine RQ.jump ?_;exact RQ.post (resW3 rfl rfl rfl rfl KA151.h KS151.h mQ (dT h16 _)) (.keep (aa _)) ⟨ob1,cap1,by rw[show(3+(30+f.b.length)+4:Int)=37+f.b.length by omega],rfl,rfl⟩
abbrev hnC(p:Option Addr)(c:Nat)(nz sm:Int):List Value:=[.slice p 0 c,.int .i64 nz,.int .i64 sm,.bool true]
abbrev hnI(h:Nat)(p:Option Addr)(c:Nat)(nz sm:Int):It:=cel h (hnC p c nz sm) 216
theorem Lend.nilA{I F J:List It}{sz:Nat}(p:Option Addr)(h:Lend I F J):Lend I F (PK.sls p sz 0 []::J):=.of (fun _ _=>⟨by simp,by cases p<;>simp⟩) (fun c hc=>by simp[PK.sls] at hc) h
theorem hnew_any:Spc Tryz.prog 61 #[] [] [] (fun v I' H'=>∃h,v=.pointer (some ⟨h,0,none⟩)∧I'=[]∧H'=[hnI h none 0 0 0]):=by refine Spc.enter Tryz.func61 (h:=?_);refine fun w0 hw0=>?_;refine go 13 ?_;intro b1;exact RQ.post (az rfl rfl) (.keep .nil) ⟨_,rfl,rfl,rfl⟩
theorem his_any(h:Nat)(p:Option Addr)(c:Nat)(nz sm:Int):Spc Tryz.prog 87 #[.pointer (some ⟨h,0,none⟩)] [hnI h p c nz sm] [] (Is (.bool true)):=by
 refine Spc.enter Tryz.func87 (h:=?_);refine fun w0 hw0=>?_;refine go 8 ?_;refine bj (hr:=dG KU114.h _) (h:=go 1 ?_);apply aL (d:=5) (dp:=10) (l':=(Sq.of [8])) rfl (sK [2] rfl)
 ·intro hb3 K3;refine go 5 ?_;exact K3 _ (.cons rfl (sK [2] rfl))
 ·intro hb3 K3;refine go 5 ?_;exact K3 _ (.cons rfl (sK [2] rfl))
 refine go 4 ?_;exact RQ.post (az rfl rfl) (aa _) ⟨rfl,rfl,rfl⟩
def FeedR(h:Nat)(nz sm:Int)(f:Fr):Value→List It→List It→Prop:=fun v I' H'=>∃p' c' ol cl ob cap,v=.tuple #[aE ol 1 cl,.int .i64 0]∧I'=[]∧H'=[hnI h p' c' nz sm,own ol cl 151 21 1 (f.cells (aE ob f.b.length cap)),own ob cap 5 1 f.b.length (bytes f.b)]
theorem feed_any(h:Nat)(p:Option Addr)(c0:Nat)(nz sm:Int)(q:Option Addr)(c n:Nat)(f:Fr)(hf:f.Fit)(hn:(eA f).length=n):Spc Tryz.prog 49 #[.pointer (some ⟨h,0,none⟩),.slice q n c] [sls q 1 n (bytes (eA f))] [hnI h p c0 nz sm] (FeedR h nz sm f):=by
 subst hn;have hpl:=frB_len hf.ok.tag;have hbl:=hf.b;refine Spc.enter Tryz.func49 (h:=?_);refine fun w0 hw0=>?_;refine go 6 ?_;refine CW.scope (γ:=Option Addr×Nat×Option Nat×Nat×Option Nat×Nat) 0 (fun _=>True) (fun g=>[(0,.pointer (some ⟨h,0,none⟩)),(6,aE g.2.2.1 1 g.2.2.2.1)]) (fun _=>[]) (fun g=>[hnI h g.1 g.2.1 nz sm,own g.2.2.1 g.2.2.2.1 151 21 1 (f.cells (aE g.2.2.2.2.1 f.b.length g.2.2.2.2.2)),own g.2.2.2.2.1 g.2.2.2.2.2 5 1 f.b.length (bytes f.b)]) rfl ?_ (fun g _=>?_)
 ·refine go 9 ?_;refine ar (his_any h p c0 nz sm) (hl:=Lend.inH mQ .nil) (h:=?_);refine go 14 ?_;refine RL.buildSlice [_,_] (ho:=rfl) (h:=?_);intro b1;refine RL.call (concatT (some ⟨b1,0,none⟩) 2 2 [⟨p,c0,[]⟩,⟨q,c,eA f⟩] (eA f) rfl (by decide) (by simp[aM]) (by omega)) (hl:=fz mQ rfl rfl (Lend.nilA p (.inI mQ .nil))) (hb:=.inl rfl) (h:=?_);rintro _ _ _ ⟨ob1,cap1,rfl,rfl,rfl,ho1⟩;refine go 6 ?_;refine CW.label (go 12 ?_);refine aR (p:=(ob1=none→False)∧(eA f).length≤cap1) (fun w hC=>⟨fun e=>by subst e;have:=dW (hC.s.h (own none cap1 5 1 (eA f).length (bytes (eA f))) mQ);omega,iY (hC.s.h (own ob1 cap1 5 1 (eA f).length (bytes (eA f))) mQ)⟩) (fun hob=>?_)
  cases ob1 with
  | none=>exact(hob.1 rfl).elim
  | some b=>
  refine ag rfl ((by rw[hpl];simp;omega)) ?_;refine go 8 ?_;refine RL.call (fread_any b cap1 _ f hf rfl hob.2) (hl:=Lend.ownE (ob:=some b) (cap:=cap1) (nn:=(eA f).length) mQ rfl rfl .nil) (hb:=.inr rfl) (h:=?_);rintro _ _ _ ⟨oB,cB,rfl,rfl,rfl⟩;have hcap:=hob.2;have h21:=dT hf.ok.tag (aE oB f.b.length cB);refine go 5 ?_;intro b2;refine an (ho:=rfl) (h1:=ig _ rfl) (hv:=h21) (h:=?_);refine go 38 ?_;refine cZ (e:=151) 21 (go 11 ?_);refine aT (ho:=rfl) (hl:=h21) (h:=?_);refine RL.buildSlice (f.cells (aE oB f.b.length cB)) (ho:=rfl) (hf:=fill_one21 h21 rfl) (h:=?_);intro b3;refine cd KE144.h rfl rfl rfl rfl rfl rfl rfl (by first|exact⟨(.take (ai _)),rfl⟩|exact⟨(.leave (.take (ai _))),rfl⟩|exact⟨(.leave (.leave (.take (ai _)))),rfl⟩|exact⟨(.leave (.leave (.leave (.take (ai _))))),rfl⟩|exact⟨(.leave (.leave (.leave (.leave (.take (ai _)))))),rfl⟩|exact⟨(.leave (.leave (.leave (.leave (.leave (.take (ai _))))))),rfl⟩|exact⟨(.leave (.leave (.leave (.leave (.leave (.leave (.take (ai _)))))))),rfl⟩|exact⟨(.leave (.leave (.leave (.leave (.leave (.leave (.leave (.take (ai _))))))))),rfl⟩|exact⟨(.leave (.leave (.leave (.leave (.leave (.leave (.leave (.leave (.take (ai _)))))))))),rfl⟩|exact⟨(.leave (.leave (.leave (.leave (.leave (.leave (.leave (.leave (.leave (.take (ai _))))))))))),rfl⟩) (Src.cel mQ h21) (fun u hu=>dI (ig _ rfl) u hu) (by first|omega|(simp only[maxLen];omega)) (by first|omega|(simp only[maxLen];omega)) ?_;intro ob2 cap2 ho2;refine go 11 ?_;refine av (d:=56) (v':=.int .i64 ((eA f).length:Int)) rfl (by rw[hpl];rfl) ?_;refine RL.slice (lo:=(eA f).length) (hi:=(eA f).length) (ho:=rfl) (h:=?_);refine go 5 ?_;refine CW.goto ?_;refine GQ.seq ?_;refine GQ.block ?_;refine GQ.seq ?_;refine GQ.block ?_;refine GQ.seq ?_;refine GQ.block ?_;refine GQ.seq ?_;rw[Nat.sub_self];exact GQ.at (γ:=Option Addr×Nat×Option Nat×Nat×Option Nat×Nat) (_,_,ob2,cap2,oB,cB) trivial (.cons rfl (.cons rfl .nil)) (fun w h=>h.rea (fun _ h=>by cases h) rE)
 ·obtain⟨p',c',ol,cl,ob,cap⟩:=g;refine go 24 ?_;refine RQ.jump ?_;exact RQ.post (bb rfl rfl rfl) (.keep (.keep (.keep .nil))) ⟨p',c',ol,cl,ob,cap,rfl,rfl,rfl⟩
end Go.Proofs.YthlchaldjekokaaGreat
namespace Go.PK
section
variable {P:Program} {L:List Oper} {ef bk:List Nat} {tq:Tq} {Q:Exit→Act→World→Prop} {N:Fm} {E:Env} {w0:World} {S:List Nat} {I H:List It} {i:Nat} {l:Sq}
variable {d:Nat} {y:Operand} {ty:TypeId} {pos:String} {af:Array Edge} {g:Option (Nat×Bool)}
theorem RL.callvM{f:FuncId}{fs args all:List Value}{C:List It}{u:Value}{xs:Array Operand}{ats:Array TypeId}(hfn:Spc P f all.toArray C [] (Is u))(hrun:∀args w,(callFunc f args).run P w=.ok (.enter f args) w)(ho:b7 L i=some ⟨some d,.call ⟨.value y,xs,ats⟩,ty,pos,af,g⟩)(hw:aG L E ⟨some d,.call ⟨.value y,xs,ats⟩,ty,pos,af,g⟩=true)(hN:Nat.blt d N.n=true)(hy:E.ev y=some (.func (.func f) fs.toArray #[]))(hx:evs E xs.toList=some args)(hl:Lend I H C)(has:fs++args=all)(h:RL P L ef bk tq Q l N ((d,u)::E) w0 S I H)(ht:tq.l.contains i=false:=by rfl):RL P L ef bk tq Q (.cons i l) N E w0 S I H:=by
 subst has;refine RL.quiet ho hw rfl hN (fun a w ha hC=>?_) h rfl ht;unfold dD;rw[exec_callF (ha.ev hy),hrun];have hargs:(fs.toArray++xs.map a.eval++ #[])=(fs++args).toArray:=by have:=ha.evs hx;apply Array.toList_inj.1;simpa using this
 show Calls P f _ w _;rw[hargs];refine(hfn w (hC.s.part (ai H) hl).1).mono ?_;rintro e w' ⟨v,I',H',he,⟨rfl,rfl,rfl⟩,hk,hs,hn,hni⟩;exact⟨v,he,rfl,hk⟩
end
end Go.PK
namespace Go.Proofs.YthlchaldjekokaaGreat
open Go.PK
abbrev vz:List Value:=[.int .i64 0,.int .i64 0,.int .i64 0]
theorem vz_at{k:Nat}(h:k<3):vz[0+k*1]?=some (.int .i64 0):=by
 have:k=0∨k=1∨k=2:=by omega
 rcases this with rfl|rfl|rfl<;>rfl
theorem vz_set{k:Nat}(h:k<3):bP vz (0+k*1) [.int .i64 0]=vz:=by
 have:k=0∨k=1∨k=2:=by omega
 rcases this with rfl|rfl|rfl<;>rfl
theorem wrap_neg{m:Int}(h:0≤m∧m≤9223372036854775807):IntKind.i64.wrap (0-m)=0-m:=by have:=ad (n:=0-m) (by omega) (by omega);injection this
theorem fclamp0(lo m:Int)(h1:lo≤0)(h2:0≤m):Spc Tryz.prog 418 #[.int .i64 0,.int .i64 lo,.int .i64 m] [] [] (Is (.tuple #[.int .i64 0,.bool false])):=by refine Spc.enter Tryz.func418 (h:=?_);refine fun w0 hw0=>?_;refine go 14 ?_;refine ag rfl ((by simp;omega)) ?_;refine go 6 ?_;refine RL.max (h:=go 1 ?_);refine RL.min (h:=go 14 ?_);exact RQ.post (bb rfl rfl rfl) (aa _) ⟨by rw[show min (max (0:Int) lo) m=0 by omega];rfl,rfl,rfl⟩
theorem vclo0(ba bm:Nat)(m:Int)(h:0≤m∧m≤9223372036854775807)(k:Nat)(hk:k<3):Spc Tryz.prog 417 #[.int .i64 (k:Int),.pointer (some ⟨ba,0,none⟩),.pointer (some ⟨bm,0,none⟩)] [cel ba vz 27,cel bm [.int .i64 m] 25] [] (Is (.tuple #[.int .i64 0,.bool false])):=by refine Spc.enter Tryz.func417 (h:=?_);refine fun w0 hw0=>?_;refine go 7 ?_;refine ae (Sq.of [0,1,2,3,4,5,6,7,8,9,10]) [] [] [0,1,4,7,8,9,10] (h:=?_);refine go 1 ?_;refine al (j:=k) (ho:=rfl) (hlt:=hk) (h:=?_);refine RL.load (ho:=rfl) (hr:=aD mQ (vz_at hk)) (h:=?_);refine go 1 ?_;refine RL.neg rfl rfl rfl rfl (go 1 ?_);refine ab (fclamp0 (IntKind.i64.wrap (0-m)) m (by rw[wrap_neg h];omega) h.1) (h:=?_);refine go 7 ?_;exact RQ.post (bb rfl rfl rfl) (aa _) ⟨rfl,rfl,rfl⟩
theorem veach0(ba bm:Nat)(m:Int)(h:0≤m∧m≤9223372036854775807):Spc Tryz.prog 283 #[.func (.func 417) #[] #[.pointer (some ⟨ba,0,none⟩),.pointer (some ⟨bm,0,none⟩)]] [cel ba vz 27,cel bm [.int .i64 m] 25] [] (Is (.tuple #[.agg vz.toArray,.bool false])):=by
 refine Spc.enter Tryz.func283 (h:=?_);refine fun w0 hw0=>?_;refine go 23 ?_;intro b1 b2;refine CW.loop (γ:=Nat) (fun i=>i≤3) (fun i=>[(0,.func (.func 417) #[] #[.pointer (some ⟨ba,0,none⟩),.pointer (some ⟨bm,0,none⟩)]),(2,.pointer (some ⟨b1,0,none⟩)),(4,.pointer (some ⟨b2,0,none⟩)),(5,.bool false),(9,.int .i64 (i:Int))]) (fun _=>[cel ba vz 27,cel bm [.int .i64 m] 25]) (fun _=>[cel b2 vz 27,cel b1 vz 27]) (fun i=>3-i) 0 (Nat.zero_le _) (.cons rfl (.cons rfl (.cons rfl (.cons rfl (.cons rfl .nil))))) wE ?_;rintro i hi;refine go 6 ?_;refine CW.cond rfl (fun hlt=>?_) (fun hlt=>?_)
 ·have hlt:i<3:=by simp at hlt;omega
  refine go 14 ?_;refine RL.callvFC (vclo0 ba bm m h i hlt) Tryz.call417 rfl rfl rfl rfl rfl (by repeat (first|exact Lend.nil|(refine Lend.inI ?_ ?_;(solve|(repeat (first|exact List.Mem.head _|apply List.Mem.tail))))|(refine Lend.inH ?_ ?_;(solve|(repeat (first|exact List.Mem.head _|apply List.Mem.tail)))))) rfl ?_;refine go 12 ?_;apply au (d:=21) (dp:=23) (l':=(Sq.of [6,7,8])) rfl (sK [0,2,4,5,9,18,19] rfl)
  ·intro hb4 K4;refine go 2 ?_;exact K4 _ (.cons rfl (sK [0,2,4,5,9,18,19] rfl))
  ·intro hb4 K4;refine go 2 ?_;exact K4 _ (.cons rfl (sK [0,2,4,5,9,18,19] rfl))
  refine al (j:=i) (ho:=rfl) (hlt:=hlt) (h:=?_);refine aj (cs:=vz) (vz_set hlt) (ho:=rfl) (hl:=by simp;omega) (h:=?_);refine go 5 ?_;refine ap rfl (ad (by omega) (by omega)) ?_;refine go 2 ?_;exact NQ.round (g:=i) (i+1) hlt (by show 3-(i+1)<3-i;omega) (.cons rfl (.cons rfl (.cons rfl (.cons rfl (.cons rfl .nil))))) wE
 ·have h3:i=3:=by simp at hlt;omega
  refine go 7 ?_;refine ak (vs:=vz) (ho:=rfl) (hr:=Rds.all mQ) (h:=?_);refine go 1 ?_;refine an (vs:=vz) (ho:=rfl) (h:=?_);refine go 4 ?_;exact RQ.post (bG (vs:=vz) rfl rfl rfl KA27.h KS27.h mQ rfl) (aa _) ⟨rfl,rfl,rfl⟩
abbrev RlOk(g st lm hz:Int):Prop:=0≤g∧g≤16∧0≤st∧0≤lm∧1≤hz∧hz≤65535
abbrev rlV(g st lm hz:Int):Value:=.agg #[.int .i64 g,.int .i64 st,.int .i64 lm,.int .i64 hz]
abbrev crz:List Value:=[.int .i64 0,.int .i64 0,.int .i64 0,.int .i64 0]
theorem vclamp0(m:Int)(h:0≤m∧m≤9223372036854775807):Spc Tryz.prog 354 #[.agg vz.toArray,.int .i64 m] [] [] (Is (.tuple #[.agg vz.toArray,.bool false])):=by refine Spc.enter Tryz.func354 (h:=?_);refine fun w0 hw0=>?_;refine go 10 ?_;intro b1 b2;refine RL.max (h:=go 6 ?_);intro b3;refine RL.makeFunc rfl rfl rfl rfl rfl (ar (veach0 b1 b3 (max m 0) (by omega)) (hl:=Lend.inH mQ (.inH mQ .nil)) (h:=?_));refine go 2 ?_;refine an (vs:=vz) (ho:=rfl) (h:=?_);refine go 4 ?_;exact RQ.post (bG (vs:=vz) rfl rfl rfl KA27.h KS27.h mQ rfl) (aa _) ⟨rfl,rfl,rfl⟩
theorem ftick_any(t:Int):Spc Tryz.prog 277 #[.int .i64 t] [] [] (Is (.bool (decide (0≤t∧t≤1099511627776)))):=by
 refine Spc.enter Tryz.func277 (h:=?_);refine fun w0 hw0=>?_;refine go 10 ?_;apply aL (d:=5) (dp:=8) (l':=(Sq.of [6])) rfl (sK [2] rfl)
 ·intro hb3 K3;refine go 3 ?_;exact K3 _ (.cons rfl (sK [2] rfl))
 ·intro hb3 K3;refine go 3 ?_;exact K3 _ (.cons rfl (sK [2] rfl))
 refine go 4 ?_;exact RQ.post (az rfl rfl) (aa _) ⟨by congr 1;rw[Bool.eq_iff_iff];simp,rfl,rfl⟩
theorem fright0(g st lm hz:Int)(h:RlOk g st lm hz)(hl:lm≤9223372036854775807):Spc Tryz.prog 276 #[rlV g st lm hz,.agg crz.toArray] [] [] (Is (.int .i64 0)):=by
 refine Spc.enter Tryz.func276 (h:=?_);refine fun w0 hw0=>?_;refine go 10 ?_;intro b1 b2;refine ak (vs:=[.int .i64 g,.int .i64 st,.int .i64 lm,.int .i64 hz]) (ho:=rfl) (hr:=Rds.all mQ) (h:=?_);refine ab (rule_any g st lm hz) (h:=?_);refine go 2 ?_;apply au (d:=10) (dp:=15) (l':=(Sq.of [])) rfl (sK [2,3,4] rfl)
 ·intro hb4 K4;refine go 2 ?_;refine ab (ftick_any 0) (h:=?_);refine go 2 ?_;exact K4 _ (.cons rfl (sK [2,3,4] rfl))
 ·intro hb4 K4;refine go 5 ?_;exact K4 _ (.cons rfl (sK [2,3,4] rfl))
 refine go 2 ?_;refine ag rfl ((by rw[bh h];rfl)) ?_;refine go 6 ?_;refine ak (vs:=vz) (ho:=rfl) (hr:=Rds.cel mQ (am ⟨rfl,rfl,rfl,trivial⟩)) (h:=?_);refine go 2 ?_;refine ab (vclamp0 lm (by omega)) (h:=?_);refine go 4 ?_;intro b3;refine an (vs:=vz) (ho:=rfl) (h:=?_);refine go 17 ?_;exact RQ.post (az rfl rfl) (aa _) ⟨rfl,rfl,rfl⟩
theorem fmay0(g st lm hz t:Int)(h:RlOk g st lm hz)(hl:lm≤9223372036854775807)(ht:0≤t∧t≤1099511627776):Spc Tryz.prog 202 #[rlV g st lm hz,.agg crz.toArray,.int .i64 t] [] [] (Is (.bool true)):=by
 refine Spc.enter Tryz.func202 (h:=?_);refine fun w0 hw0=>?_;refine go 9 ?_;intro b1 b2;refine ak (vs:=[.int .i64 g,.int .i64 st,.int .i64 lm,.int .i64 hz]) (ho:=rfl) (hr:=Rds.all mQ) (h:=?_);refine ak (vs:=crz) (ho:=rfl) (hr:=Rds.all mQ) (h:=?_);refine ab (fright0 g st lm hz h hl) (h:=?_);refine go 2 ?_;apply aL (d:=11) (dp:=16) (l':=(Sq.of [10,11,12,13,14])) rfl (sK [2,6] rfl)
 ·intro hb5 K5;refine go 5 ?_;exact K5 _ (.cons rfl (sK [2,6] rfl))
 ·intro hb5 K5;refine go 5 ?_;exact K5 _ (.cons rfl (sK [2,6] rfl))
 refine go 1 ?_;apply aL (d:=17) (dp:=20) (l':=(Sq.of [14])) rfl (sK [6] rfl)
 ·intro hb11 K11;refine go 1 ?_;refine ab (ftick_any t) (h:=?_);refine go 1 ?_;exact K11 _ (.cons rfl (sK [6] rfl))
 ·intro hb11 K11;refine go 3 ?_;exact K11 _ (.cons rfl (sK [6] rfl))
 refine go 4 ?_;exact RQ.post (az rfl rfl) (aa _) ⟨by congr 1;simp;omega,rfl,rfl⟩
theorem ffaded0(g st lm hz o:Int)(h:0≤st∧st≤9223372036854775807):Spc Tryz.prog 204 #[rlV g st lm hz,.int .i64 0,.int .i64 o] [] [] (Is (.int .i64 0)):=by refine Spc.enter Tryz.func204 (h:=?_);refine fun w0 hw0=>?_;refine go 13 ?_;intro b1;refine ag rfl ((by decide)) ?_;refine go 7 ?_;refine ap rfl (ad (by omega) (by omega)) ?_;refine RL.min (h:=go 4 ?_);exact RQ.post (az rfl rfl) (aa _) ⟨by rw[show min ((0:Int)+st) 0=0 by omega],rfl,rfl⟩
theorem feach0(g st lm hz:Int)(h:0≤st∧st≤9223372036854775807):Spc Tryz.prog 203 #[.func (.func 204) #[rlV g st lm hz] #[],.agg vz.toArray,.agg vz.toArray,.int .i64 3] [] [] (Is (.agg vz.toArray)):=by
 refine Spc.enter Tryz.func203 (h:=?_);refine fun w0 hw0=>?_;refine go 15 ?_;intro b1 b2 b3 b4;refine ak (vs:=vz) (ho:=rfl) (hr:=Rds.all mQ) (h:=?_);refine go 4 ?_;refine CW.loop (γ:=Nat) (fun i=>i≤3) (fun i=>[(0,.func (.func 204) #[rlV g st lm hz] #[]),(3,.int .i64 3),(6,.pointer (some ⟨b2,0,none⟩)),(8,.pointer (some ⟨b3,0,none⟩)),(9,.pointer (some ⟨b4,0,none⟩)),(12,.agg vz.toArray),(13,.int .i64 (i:Int))]) (fun _=>[]) (fun _=>[cel b4 vz 27,cel b3 vz 27,cel b2 vz 27]) (fun i=>3-i) 0 (Nat.zero_le _) (.cons rfl (.cons rfl (.cons rfl (.cons rfl (.cons rfl (.cons rfl (.cons rfl .nil))))))) wE ?_;rintro i hi;refine go 6 ?_;refine CW.cond rfl (fun hlt=>?_) (fun hlt=>?_)
 ·have hlt:i<3:=by simp at hlt;omega
  refine go 7 ?_;refine RL.index (j:=i) KU27.h KS25.h KA25.h rfl rfl rfl rfl rfl rfl hlt (by have:=vz_at hlt;rw[Nat.zero_add] at this;simpa using this) ?_;refine go 8 ?_;refine al (j:=i) (ho:=rfl) (hlt:=hlt) (h:=?_);refine aj (cs:=vz) (vz_set hlt) (ho:=rfl) (hl:=by simp;omega) (h:=?_);refine go 9 ?_;refine aI rfl ((by simp;omega)) ?_;refine go 5 ?_;refine al (j:=i) (ho:=rfl) (hlt:=hlt) (h:=?_);refine RL.load (ho:=rfl) (hr:=Rd.get mQ (vz_at hlt)) (h:=?_);refine RL.callvM (fs:=[rlV g st lm hz]) (ffaded0 g st lm hz 0 h) Tryz.call204 rfl rfl rfl rfl rfl .nil rfl (al (j:=i) (ho:=rfl) (hlt:=hlt) (h:=?_));refine aj (cs:=vz) (vz_set hlt) (ho:=rfl) (hl:=by simp;omega) (h:=?_);refine go 4 ?_;refine ap rfl (ad (by omega) (by omega)) ?_;refine go 2 ?_;exact NQ.round (g:=i) (i+1) hlt (by show 3-(i+1)<3-i;omega) (.cons rfl (.cons rfl (.cons rfl (.cons rfl (.cons rfl (.cons rfl (.cons rfl .nil))))))) wE
 ·have h3:i=3:=by simp at hlt;omega
  refine go 7 ?_;refine ak (vs:=vz) (ho:=rfl) (hr:=Rds.all mQ) (h:=?_);refine an (vs:=vz) (ho:=rfl) (h:=?_);refine go 3 ?_;exact RQ.post (cU (vs:=vz) rfl rfl KA27.h KS27.h mQ rfl) (aa _) ⟨rfl,rfl,rfl⟩
theorem ffade0(g st lm hz t:Int)(h:RlOk g st lm hz)(hs:st≤9223372036854775807)(hl:lm≤9223372036854775807)(ht:0≤t∧t≤1099511627776):Spc Tryz.prog 132 #[rlV g st lm hz,.agg crz.toArray,.int .i64 t] [] [] (Is (.tuple #[.agg crz.toArray,.int .i64 0])):=by
 refine Spc.enter Tryz.func132 (h:=?_);refine fun w0 hw0=>?_;refine go 12 ?_;intro b1 b2 b3;refine ak (vs:=[.int .i64 g,.int .i64 st,.int .i64 lm,.int .i64 hz]) (ho:=rfl) (hr:=Rds.all mQ) (h:=?_);refine ak (vs:=crz) (ho:=rfl) (hr:=Rds.all mQ) (h:=?_);refine go 1 ?_;refine ab (fmay0 g st lm hz t h hl ht) (h:=?_);refine go 10 ?_;refine ap rfl (ad (by omega) (by omega)) ?_;refine go 6 ?_;refine CW.cond rfl (fun h1=>?_) (fun h1=>?_)
 ·refine go 2 ?_;refine ak (vs:=crz) (ho:=rfl) (hr:=Rds.all mQ) (h:=?_);refine an (vs:=crz) (ho:=rfl) (h:=?_);refine go 6 ?_;exact RQ.post (bG (vs:=crz) rfl rfl rfl KA281.h KS281.h mQ rfl) (aa _) ⟨rfl,rfl,rfl⟩
 ·refine go 4 ?_;refine ae (Sq.of [0,1,2,3,4,5,6,7,8,9,10]) [9] [9] [1,2,4,6,8,10] (h:=?_);refine ak (vs:=[.int .i64 g,.int .i64 st,.int .i64 lm,.int .i64 hz]) (ho:=rfl) (hr:=Rds.all mQ) (h:=?_);refine RL.makeFunc rfl rfl rfl rfl rfl (go 1 ?_);refine ak (vs:=vz) (ho:=rfl) (hr:=Rds.cel mQ (am ⟨rfl,rfl,rfl,trivial⟩)) (h:=?_);refine bi _ (ho:=rfl) (h:=?_);refine ab (feach0 g st lm hz ⟨h.2.2.1,hs⟩) (h:=?_);refine go 3 ?_;refine an (vs:=crz) (ho:=rfl) (h:=?_);refine go 4 ?_;exact RQ.post (bG (vs:=crz) rfl rfl rfl KA281.h KS281.h mQ rfl) (aa _) ⟨rfl,rfl,rfl⟩
structure Trk where
 id:Int
 kd:Int
 w:Int
 g:Int
 st:Int
 lm:Int
 hz:Int
 b:Nat
structure Trk.Ok(x:Trk):Prop where
 r:RlOk x.g x.st x.lm x.hz
 s:x.st≤9223372036854775807
 l:x.lm≤9223372036854775807
abbrev Trk.cells(x:Trk):List Value:=[.int .i64 x.id,.int .i64 x.kd,.int .i64 x.w,.int .i64 x.g,.int .i64 x.st,.int .i64 x.lm,.int .i64 x.hz,.int .i64 0,.int .i64 0,.int .i64 0,.int .i64 0,.bool false]
abbrev iL(x:Trk):It:=cel x.b x.cells 289
def fj(TL:List Trk):List (Value×Value):=TL.map fun x=>(.int .i64 x.id,.pointer (some ⟨x.b,0,none⟩))
def nvC(A:List Value)(mp:Nat)(nw:Int):List Value:=A++[.map (some mp),.int .i64 (-1),.int .i64 0,.int .i64 nw,.bool false]
theorem nv_at{A:List Value}(h:A.length=20)(mp:Nat)(nw:Int)(j:Nat):(nvC A mp nw)[0+(20+j)]?=[.map (some mp),.int .i64 (-1),.int .i64 0,.int .i64 nw,.bool false][j]?:=by rw[nvC,List.getElem?_append_right (by omega),h,show 0+(20+j)-20=j by omega]
theorem nv_len{A:List Value}(h:A.length=20)(mp:Nat)(nw:Int):(nvC A mp nw).length=25:=by rw[nvC,List.length_append,h];rfl
theorem nv_set{A:List Value}(h:A.length=20)(mp:Nat)(nw t:Int):bP (nvC A mp nw) (0+23) [.int .i64 t]=nvC A mp t:=by rw[dH _ _ _ (by rw[nv_len h];simp)];simp only[nvC,List.take_append,List.drop_append,h];rw[List.take_of_length_le (by omega),List.drop_of_length_le (by simp[h])];simp
abbrev gY(nb:Nat)(A:List Value)(mp:Nat)(nw:Int):It:=cel nb (nvC A mp nw) 278
theorem nis_any(nb:Nat)(A:List Value)(mp:Nat)(nw:Int)(hA:A.length=20):Spc Tryz.prog 201 #[.pointer (some ⟨nb,0,none⟩)] [gY nb A mp nw] [] (Is (.bool true)):=by
 refine Spc.enter Tryz.func201 (h:=?_);refine fun w0 hw0=>?_;refine go 8 ?_;refine bj (hr:=dG KU117.h _) (h:=go 1 ?_);apply aL (d:=5) (dp:=11) (l':=(Sq.of [9])) rfl (sK [2] rfl)
 ·intro hb3 K3;refine go 3 ?_;refine RL.load (ho:=rfl) (hr:=aD mQ (nv_at hA mp nw 0)) (h:=?_);refine bj (hr:=neq_map KU276.h _) (h:=go 1 ?_);exact K3 _ (.cons rfl (sK [2] rfl))
 ·intro hb3 K3;refine go 6 ?_;exact K3 _ (.cons rfl (sK [2] rfl))
 refine go 4 ?_;exact RQ.post (az rfl rfl) (aa _) ⟨rfl,rfl,rfl⟩
theorem nstarted_any(nb:Nat)(A:List Value)(mp:Nat)(nw:Int)(hA:A.length=20):Spc Tryz.prog 213 #[.pointer (some ⟨nb,0,none⟩)] [gY nb A mp nw] [] (Is (.bool false)):=by
 refine Spc.enter Tryz.func213 (h:=?_);refine fun w0 hw0=>?_;refine go 8 ?_;refine ab (nis_any nb A mp nw hA) (h:=?_);refine go 1 ?_;apply aL (d:=5) (dp:=11) (l':=(Sq.of [9])) rfl (sK [2] rfl)
 ·intro hb3 K3;refine go 3 ?_;refine RL.load (ho:=rfl) (hr:=aD mQ (nv_at hA mp nw 1)) (h:=?_);refine go 2 ?_;exact K3 _ (.cons rfl (sK [2] rfl))
 ·intro hb3 K3;refine go 6 ?_;exact K3 _ (.cons rfl (sK [2] rfl))
 refine go 4 ?_;exact RQ.post (az rfl rfl) (aa _) ⟨rfl,rfl,rfl⟩
theorem nmode_any(nb:Nat)(A:List Value)(mp:Nat)(nw t:Int)(hA:A.length=20):Spc Tryz.prog 137 #[.pointer (some ⟨nb,0,none⟩),.int .i64 t] [gY nb A mp nw] [] (Is (.int .i64 0)):=by refine Spc.enter Tryz.func137 (h:=?_);refine fun w0 hw0=>?_;refine go 9 ?_;refine ab (nstarted_any nb A mp nw hA) (h:=?_);refine go 11 ?_;exact RQ.post (az rfl rfl) (aa _) ⟨rfl,rfl,rfl⟩
theorem nbound_any(nb:Nat)(A:List Value)(mp:Nat)(nw t:Int)(hA:A.length=20):Spc Tryz.prog 136 #[.pointer (some ⟨nb,0,none⟩),.int .i64 t] [gY nb A mp nw] [] (Is (.int .i64 0)):=by refine Spc.enter Tryz.func136 (h:=?_);refine fun w0 hw0=>?_;refine go 9 ?_;refine ab (nstarted_any nb A mp nw hA) (h:=?_);refine go 11 ?_;exact RQ.post (az rfl rfl) (aa _) ⟨rfl,rfl,rfl⟩
theorem ncut_any(nb:Nat)(A:List Value)(mp:Nat)(nw:Int)(hA:A.length=20):Spc Tryz.prog 138 #[.pointer (some ⟨nb,0,none⟩)] [gY nb A mp nw] [] (Is (.bool false)):=by
 refine Spc.enter Tryz.func138 (h:=?_);refine fun w0 hw0=>?_;refine go 8 ?_;refine ab (nis_any nb A mp nw hA) (h:=?_);refine go 1 ?_;apply aL (d:=5) (dp:=10) (l':=(Sq.of [8])) rfl (sK [2] rfl)
 ·intro hb3 K3;refine go 3 ?_;refine RL.load (ho:=rfl) (hr:=aD mQ (nv_at hA mp nw 4)) (h:=?_);refine go 1 ?_;exact K3 _ (.cons rfl (sK [2] rfl))
 ·intro hb3 K3;refine go 5 ?_;exact K3 _ (.cons rfl (sK [2] rfl))
 refine go 4 ?_;exact RQ.post (az rfl rfl) (aa _) ⟨rfl,rfl,rfl⟩
theorem nat_any(nb:Nat)(A:List Value)(mp:Nat)(nw t:Int)(hA:A.length=20)(ht:nw≤t∧t≤1099511627776):Spc Tryz.prog 131 #[.pointer (some ⟨nb,0,none⟩),.int .i64 t] [] [gY nb A mp nw] (fun v I' H'=>v=.int .i64 0∧I'=[]∧H'=[gY nb A mp t]):=by
 refine Spc.enter Tryz.func131 (h:=?_);refine fun w0 hw0=>?_;refine go 10 ?_;refine ar (nis_any nb A mp nw hA) (hl:=Lend.inH mQ .nil) (h:=?_);refine go 11 ?_;refine RL.load (ho:=rfl) (hr:=Rd.get mQ (nv_at hA mp nw 3)) (h:=?_);refine go 2 ?_;apply au (d:=16) (dp:=19) (l':=(Sq.of [10])) rfl (sK [0,1,4] rfl)
 ·intro hb7 K7;refine go 3 ?_;exact K7 _ (.cons rfl (sK [0,1,4] rfl))
 ·intro hb7 K7;refine go 3 ?_;exact K7 _ (.cons rfl (sK [0,1,4] rfl))
 refine go 3 ?_;refine CW.cond rfl (fun h=>?_) (fun h=>?_)
 ·exfalso;simp at h;omega
 ·refine go 9 ?_;refine aj (cs':=nvC A mp t) (vs:=[.int .i64 t]) (nv_set hA mp nw t) (ho:=rfl) (hl:=by rw[nv_len hA];simp) (h:=?_);refine go 8 ?_;exact RQ.post (az rfl rfl) (.keep .nil) ⟨rfl,rfl,rfl⟩
theorem trk_perm{TL:List Trk}{x:Trk}(h:x∈TL):∃r,(TL.map iL).Perm (iL x::r):=by obtain⟨u,v,rfl⟩:=List.append_of_mem h;refine⟨(u++v).map iL,?_⟩;have:=(List.perm_middle (a:=x) (l₁:=u) (l₂:=v)).map iL;simpa using this
section
variable {P:Program} {Q:Exit→Act→World→Prop} {N:Fm} {E:Env} {w0:World} {S:List Nat} {I B l r:List It} {y:It} {cc:Code}
theorem CW.openAll(hp:l.Perm (y::r))(h:CW P cc Q N E w0 S I (allI r::y::B)):CW P cc Q N E w0 S I (allI l::B):=
 CW.unpack (CW.perm ((hp.append_right B).trans List.perm_middle.symm) (CW.pack h))
theorem Cls.shutAll{w:World}(hp:l.Perm (y::r))(h:Cls w0 S I (allI r::y::B) w):Cls w0 S I (allI l::B) w:=
 (h.unpack.perm ((hp.append_right B).trans List.perm_middle.symm).symm).pack
end
theorem trC_mem{TL:List Trk}{p:Value×Value}(h:p∈fj TL):∃x∈TL,p=(.int .i64 x.id,.pointer (some ⟨x.b,0,none⟩)):=by obtain⟨x,hx,rfl⟩:=List.mem_map.1 h;exact⟨x,hx,rfl⟩
theorem ntick_any(nb:Nat)(A:List Value)(mp:Nat)(nw t:Int)(TL:List Trk)(hA:A.length=20)(ht:nw≤t∧t≤1099511627776)(h0:0≤nw)(hT:∀x∈TL,x.Ok):Spc Tryz.prog 69 #[.pointer (some ⟨nb,0,none⟩),.int .i64 t] [] [gY nb A mp nw,aN mp aF (fj TL),allI (TL.map iL)] (fun v I' H'=>v=.int .i64 0∧I'=[]∧H'=[gY nb A mp t,aN mp aF (fj TL),allI (TL.map iL)]):=by
 refine Spc.enter Tryz.func69 (h:=?_);refine fun w0 hw0=>?_;refine go 9 ?_;refine RL.call (nat_any nb A mp nw t hA ht) (hl:=.nil) (hb:=.inr rfl) (h:=?_);rintro _ _ _ ⟨rfl,rfl,rfl⟩;refine go 19 ?_;refine RL.load (ho:=rfl) (hr:=Rd.get mQ (nv_at hA mp t 0)) (h:=?_);refine RL.range KU276.h rfl rfl rfl rfl rfl rfl pE (fun it=>?_);refine go 3 ?_;refine CW.loop (γ:=List (Value×Value)) (fun left=>∀p∈left,p∈fj TL) (fun _=>[(0,.pointer (some ⟨nb,0,none⟩)),(1,.int .i64 t),(5,.int .i64 0),(18,.pointer (some ⟨it,0,none⟩))]) (fun _=>[]) (fun left=>[df mp it aF (fj TL) left,gY nb A mp t,allI (TL.map iL)]) (fun left=>left.length) (fj TL) (fun _ h=>h) (.cons rfl (.cons rfl (.cons rfl (.cons rfl .nil)))) wE ?_;rintro left hw;refine go 2 ?_;refine RL.nextC rfl rfl rfl rfl rfl rfl (.take (ai _)) (fun hl=>?_) (fun q p hp=>?_)
 ·subst hl;refine go 4 ?_;refine ag rfl ((by simp)) ?_;refine go 6 ?_;refine CW.unrange (go 6 ?_);exact RQ.rea (fun _ h=>h) (H':=[gY nb A mp t,aN mp aF (fj TL),allI (TL.map iL)]) rE (RQ.post (az rfl rfl) (.keep (.keep (.keep .nil))) ⟨rfl,rfl,rfl⟩)
 ·obtain⟨x,hx,rfl⟩:=trC_mem (hw p (List.mem_of_getElem? hp));refine go 4 ?_;refine aI rfl ((by simp)) ?_;refine go 5 ?_;refine RL.entry rfl rfl rfl rfl (List.Mem.head _) ?_;have hok:=hT x hx;obtain⟨r,hr⟩:=trk_perm hx;refine go 4 ?_;refine CW.uncur (CW.rea (fun _ h=>h) (H':=[allI (TL.map iL),df mp it aF (fj TL) (left.eraseIdx q),gY nb A mp t]) rE ?_);refine CW.openAll hr (ae (Sq.of [0,1,2,3,4,5,6,7,8,9,10,11,12,13,14,15,16,17]) [17] [17] [0,1,2,3,4,6,7,8,10,12,13,14,15,16] (h:=?_));refine go 5 ?_;refine ak (vs:=[.int .i64 x.g,.int .i64 x.st,.int .i64 x.lm,.int .i64 x.hz]) (ho:=rfl) (hr:=Rds.cel mQ (am ⟨rfl,rfl,rfl,rfl,trivial⟩)) (h:=?_);refine go 3 ?_;refine ak (vs:=crz) (ho:=rfl) (hr:=Rds.cel mQ (am ⟨rfl,rfl,rfl,rfl,trivial⟩)) (h:=?_);refine go 1 ?_;refine ab (ffade0 x.g x.st x.lm x.hz t hok.r hok.s hok.l (by omega)) (h:=?_);refine go 5 ?_;refine aj (cs':=x.cells) (vs:=crz) rfl KS281.h rfl rfl rfl rfl rfl rfl rfl rfl uE (by simp) ?_;refine go 2 ?_;refine NQ.round (g:=left) (left.eraseIdx q) (fun p hp'=>hw p (List.mem_of_mem_eraseIdx hp')) (by show(left.eraseIdx q).length<left.length;rw[List.length_eraseIdx_of_lt (List.getElem?_eq_some_iff.1 hp).1];have:=(List.getElem?_eq_some_iff.1 hp).1;omega) (.cons rfl (.cons rfl (.cons rfl (.cons rfl .nil)))) (fun w h=>(Cls.shutAll hr h).rea (fun _ h=>h) rE)
def qC(bd ho pr:Int):List Value:=.int .i64 bd:: .int .i64 ho:: .int .i64 pr::List.replicate 40 (.int .i64 0)
abbrev qI(b:Nat)(bd ho pr:Int):It:=cel b (qC bd ho pr) 499
theorem q_at(bd ho pr:Int){j:Nat}(h:j<40):(qC bd ho pr)[0+3+j]?=some (.int .i64 0):=by rw[show 0+3+j=j+1+1+1 by omega];show(List.replicate 40 (Value.int .i64 0))[j]?=_;rw[List.getElem?_replicate,if_pos h]
theorem qlook_any(b:Nat)(bd ho pr:Int)(s:Nat)(hh:1≤ho)(hs:s<8):Spc Tryz.prog 278 #[.pointer (some ⟨b,0,none⟩),.int .i64 (s:Int)] [qI b bd ho pr] [] (Is (.pointer (some ⟨b,0+3+s*5,none⟩))):=by
 refine Spc.enter Tryz.func278 (h:=?_);refine fun w0 hw0=>?_;refine go 9 ?_;refine bj (hr:=fb KU291.h _) (h:=go 1 ?_);apply au (d:=7) (dp:=13) (l':=(Sq.of [9,10,11,12,13,14,15,16])) rfl (sK [0,1,4] rfl)
 ·intro hb3 K3;refine go 6 ?_;exact K3 _ (.cons rfl (sK [0,1,4] rfl))
 ·intro hb3 K3;refine go 6 ?_;exact K3 _ (.cons rfl (sK [0,1,4] rfl))
 refine go 1 ?_;apply au (d:=14) (dp:=17) (l':=(Sq.of [13,14,15,16])) rfl (sK [0,1,4] rfl)
 ·intro hb10 K10;refine go 3 ?_;exact K10 _ (.cons rfl (sK [0,1,4] rfl))
 ·intro hb10 K10;refine go 3 ?_;exact K10 _ (.cons rfl (sK [0,1,4] rfl))
 refine go 1 ?_;apply au (d:=18) (dp:=21) (l':=(Sq.of [])) rfl (sK [0,1,4] rfl)
 ·intro hb14 K14;refine go 3 ?_;exact K14 _ (.cons rfl (sK [0,1,4] rfl))
 ·intro hb14 K14;refine go 3 ?_;exact K14 _ (.cons rfl (sK [0,1,4] rfl))
 refine go 2 ?_;refine CW.cond rfl (fun h=>?_) (fun h=>?_)
 ·exfalso;simp at h;omega
 ·refine go 8 ?_;refine al (j:=s) (ho:=rfl) (hlt:=hs) (h:=go 4 ?_);exact RQ.post (az rfl rfl) (aa _) ⟨rfl,rfl,rfl⟩
theorem qhappen0(b:Nat)(bd ho pr t:Int)(s:Nat)(hh:1≤ho)(hs:s<8)(ht:0≤t∧t≤1099511627776):Spc Tryz.prog 205 #[.pointer (some ⟨b,0,none⟩),.int .i64 (s:Int),.int .i64 t,.int .i64 0] [qI b bd ho pr] [] (Is (.tuple #[.int .i64 0,.int .i64 0])):=by
 have hq:=q_at bd ho pr (show s*5+0<40 by omega);have hq3:=q_at bd ho pr (show s*5+3<40 by omega);rw[←Nat.add_assoc] at hq hq3;refine Spc.enter Tryz.func205 (h:=?_);refine fun w0 hw0=>?_;refine go 10 ?_;refine bj (hr:=fb KU291.h _) (h:=go 1 ?_);apply au (d:=13) (dp:=19) (l':=(Sq.of [])) rfl (sK [0,1,2,3,8,9] rfl)
 ·intro hb3 K3;refine go 6 ?_;exact K3 _ (.cons rfl (sK [0,1,2,3,8,9] rfl))
 ·intro hb3 K3;refine go 6 ?_;exact K3 _ (.cons rfl (sK [0,1,2,3,8,9] rfl))
 refine go 2 ?_;refine CW.cond rfl (fun h1=>?_) (fun h1=>?_)
 ·exfalso;simp at h1;omega
 ·refine go 6 ?_;refine ab (qlook_any b bd ho pr s hh hs) (h:=?_);refine go 7 ?_;refine bj (hr:=fb KU500.h _) (h:=go 1 ?_);apply au (d:=25) (dp:=28) (l':=(Sq.of [6,7,8,9])) rfl (sK [0,2,3,10] rfl)
  ·intro hb3 K3;refine go 3 ?_;exact K3 _ (.cons rfl (sK [0,2,3,10] rfl))
  ·intro hb3 K3;refine go 3 ?_;exact K3 _ (.cons rfl (sK [0,2,3,10] rfl))
  refine go 1 ?_;apply au (d:=29) (dp:=32) (l':=(Sq.of [])) rfl (sK [0,2,3,10] rfl)
  ·intro hb7 K7;refine go 3 ?_;exact K7 _ (.cons rfl (sK [0,2,3,10] rfl))
  ·intro hb7 K7;refine go 3 ?_;exact K7 _ (.cons rfl (sK [0,2,3,10] rfl))
  refine go 2 ?_;refine CW.cond rfl (fun h2=>?_) (fun h2=>?_)
  ·exfalso;simp at h2;omega
  ·refine go 8 ?_;refine RL.load (ho:=rfl) (hr:=aD mQ hq) (h:=?_);refine go 2 ?_;apply aL (d:=38) (dp:=45) (l':=(Sq.of [])) rfl (sK [0,2,3,10] rfl)
   ·intro hb6 K6;refine go 4 ?_;refine RL.load (ho:=rfl) (hr:=aD mQ hq3) (h:=?_);refine go 2 ?_;exact K6 _ (.cons rfl (sK [0,2,3,10] rfl))
   ·intro hb6 K6;refine go 7 ?_;exact K6 _ (.cons rfl (sK [0,2,3,10] rfl))
   refine go 62 ?_;refine RL.load (ho:=rfl) (hr:=aD mQ hq) (h:=?_);refine go 5 ?_;exact RQ.post (bb rfl rfl rfl) (aa _) ⟨rfl,rfl,rfl⟩
theorem qLook0(b:Nat)(bd ho pr t:Int)(s:Nat)(hh:1≤ho)(hs:s<8)(ht:0≤t∧t≤1099511627776):Spc Tryz.prog 134 #[.pointer (some ⟨b,0,none⟩),.int .i64 (s:Int),.int .i64 t] [qI b bd ho pr] [] (Is (.tuple #[.int .i64 0,.int .i64 0])):=by refine Spc.enter Tryz.func134 (h:=?_);refine fun w0 hw0=>?_;refine go 11 ?_;refine ab (qhappen0 b bd ho pr t s hh hs ht) (h:=?_);refine go 7 ?_;exact RQ.post (bb rfl rfl rfl) (aa _) ⟨rfl,rfl,rfl⟩
abbrev jC(kb:Nat)(g0 g1 g2:Int)(sp mp:Option Addr)(tm:Nat):List Value:=[.pointer (some ⟨kb,0,none⟩),.int .i64 g0,.int .i64 g1,.int .i64 g2,.pointer sp,.pointer mp,.map (some tm)]
abbrev jI(b kb:Nat)(g0 g1 g2:Int)(sp mp:Option Addr)(tm:Nat):It:=cel b (jC kb g0 g1 g2 sp mp tm) 295
theorem jis_any(b kb:Nat)(g0 g1 g2:Int)(sp mp:Option Addr)(tm:Nat):Spc Tryz.prog 133 #[.pointer (some ⟨b,0,none⟩)] [jI b kb g0 g1 g2 sp mp tm] [] (Is (.bool true)):=by
 refine Spc.enter Tryz.func133 (h:=?_);refine fun w0 hw0=>?_;refine go 8 ?_;refine bj (hr:=dG KU194.h _) (h:=go 1 ?_);apply aL (d:=5) (dp:=11) (l':=(Sq.of [9])) rfl (sK [2] rfl)
 ·intro hb3 K3;refine go 4 ?_;refine bj (hr:=neq_map KU125.h _) (h:=go 1 ?_);exact K3 _ (.cons rfl (sK [2] rfl))
 ·intro hb3 K3;refine go 6 ?_;exact K3 _ (.cons rfl (sK [2] rfl))
 refine go 4 ?_;exact RQ.post (az rfl rfl) (aa _) ⟨rfl,rfl,rfl⟩
theorem jturn0(jb kb:Nat)(g0 g1 g2:Int)(sp mp:Option Addr)(tm:Nat)(bd ho pr t:Int)(s:Nat)(hh:1≤ho)(hs:s<8)(ht:0≤t∧t≤1099511627776):Spc Tryz.prog 70 #[.pointer (some ⟨jb,0,none⟩),.int .i64 (s:Int),.int .i64 t] [jI jb kb g0 g1 g2 sp mp tm,qI kb bd ho pr] [] (Is (.int .i64 0)):=by refine Spc.enter Tryz.func70 (h:=?_);refine fun w0 hw0=>?_;refine go 9 ?_;refine ab (jis_any jb kb g0 g1 g2 sp mp tm) (h:=?_);refine go 14 ?_;refine ab (qLook0 kb bd ho pr t s hh hs ht) (h:=?_);refine go 14 ?_;exact RQ.post (az rfl rfl) (aa _) ⟨rfl,rfl,rfl⟩
end Go.Proofs.YthlchaldjekokaaGreat
namespace Go.PK
open Go.Sort
theorem putCells_row{α:Type}[Inhabited α](enc:α→Value)(d:List α)(xs rest:List Value)(h:xs.length=d.length):putCells enc 0 d.toArray (xs++rest).toArray=(d.map enc++rest).toArray:=by
 apply Array.ext';simp only[putCells,Array.toList_mapIdx];apply List.ext_getElem?;intro k;simp only[List.getElem?_mapIdx,List.size_toArray,Nat.zero_le,true_and,Nat.zero_add,Nat.sub_zero];by_cases hk:k<d.length
 ·rw[List.getElem?_append_left (by omega),List.getElem?_append_left (by simpa using hk),List.getElem?_map,List.getElem?_eq_getElem (by omega),List.getElem?_eq_getElem hk];simp[hk]
 ·rw[List.getElem?_append_right (by omega),List.getElem?_append_right (by simpa using hk),List.length_map,h]
  cases rest[k-d.length]? with
  | none=>rfl
  | some v=>simp[hk]
theorem sorted_own{α:Type}[Inhabited α](enc:α→Value){b cap n sz m:Nat}{e:TypeId}{xs:List Value}{d:List α}{w:World}{os:Array Obj}(hA:(own (some b) cap e sz n xs).A w)(hl:d.length=xs.length):(own (some b) cap e sz n (d.map enc)).A (grow (putRow enc (Sort.ahead w m) b 0 d.toArray) os)∧Keeps [b] w (grow (putRow enc (Sort.ahead w m) b 0 d.toArray) os):=by
 obtain⟨h1,h2,h3,rest,⟨f,h4,h6⟩,h5⟩:=hA;have hb:b<w.heap.size:=(Array.getElem?_eq_some_iff.1 h4).1;have hget:∀c,c<w.heap.size→(grow (putRow enc (Sort.ahead w m) b 0 d.toArray) os).heap[c]?=(w.heap.modify b (onCells (putCells enc 0 d.toArray)))[c]?:=fun c hc=>by show(w.heap.modify b (onCells (putCells enc 0 d.toArray))++os)[c]?=_;rw[Array.getElem?_append_left (by simpa using hc)]
 refine⟨⟨by rw[List.length_map,hl,h1],h2,h3,rest,⟨f,?_,h6⟩,?_⟩,⟨rfl,rfl,rfl,?_,?_,by first|exact Nat.le_add_right _ _|exact Nat.le_refl 0⟩⟩
 ·rw[hget b hb,Array.getElem?_modify,if_pos rfl,h4];show some (onCells _ (Obj.cells (xs++rest).toArray e f))=_;rw[onCells,putCells_row enc d xs rest hl.symm]
 ·rw[List.length_append,List.length_map,hl,←List.length_append];exact h5
 ·show w.heap.size≤(w.heap.modify b _++os).size;simp
 ·intro c hc hn;rw[hget c hc,Array.getElem?_modify,if_neg (by intro h;subst h;exact hn (by simp))]
theorem own_holds{α:Type}[Inhabited α](enc:α→Value){b cap n:Nat}{e:TypeId}{d:List α}{w:World}(hA:(own (some b) cap e 1 n (d.map enc)).A w):Holds enc w b 0 d.toArray∧b<w.heap.size∧d.length=n:=by
 obtain⟨h1,h2,h3,rest,⟨f,h4,h6⟩,h5⟩:=hA;have hb:b<w.heap.size:=(Array.getElem?_eq_some_iff.1 h4).1;have hn:d.length=n:=by simpa using h1
 refine⟨fun j hj=>?_,hb,hn⟩;have hj:j<d.length:=by simpa using hj
 constructor
 ·simp[World.cell?,h4,List.getElem?_append_left,hj]
 ·simp only[World.frozen?,h4,Nat.zero_add];rcases h6 with rfl|h6
  ·simp
  ·simp;omega
theorem sort_ints{P:Program}{f:FuncId}(hC:∀(blk off cap:Nat) (zs:List Int) (w:World),Holds (Value.int .i64) w blk off zs.toArray→blk<w.heap.size→zs.length<4611686018427387904→Calls P f #[.slice (some ⟨blk,off,none⟩) zs.length cap] w fun e w'=>e=.returned (.tuple #[])∧∃n os,w'=grow (putRow (Value.int .i64) (Sort.ahead w n) blk off (zs.mergeSort fun x y=>decide (x≤y)).toArray) os)(b cap n:Nat)(e:TypeId)(zs:List Int)(hn:zs.length=n)(hb:n<4611686018427387904):Spc P f #[aE (some b) n cap] [] [own (some b) cap e 1 n (zs.map (Value.int .i64))] (fun v I' H'=>v=.tuple #[]∧I'=[]∧H'=[own (some b) cap e 1 n ((zs.mergeSort fun x y=>decide (x≤y)).map (Value.int .i64))]):=by intro w hw;have hA:=hw.h _ (List.Mem.head _);obtain⟨hH,hb',-⟩:=own_holds _ hA;subst hn;refine(hC b 0 cap zs w hH hb' hb).mono ?_;rintro e' w' ⟨rfl,m,os,rfl⟩;obtain⟨k1,k2⟩:=sorted_own (Value.int .i64) (m:=m) (os:=os) (d:=zs.mergeSort fun x y=>decide (x≤y)) hA (by rw[List.length_mergeSort,List.length_map]);refine⟨_,[],_,rfl,⟨rfl,rfl,rfl⟩,k2,⟨by simp,fun x hx=>?_,by simp[own],by simp⟩,fun c hc=>.inl hc,by simp⟩;rw[List.mem_singleton.1 hx];exact k1
end Go.PK
namespace Go.Proofs
open Go.Shelf
def Tryz.sortI_ren:Go.Shelf.Ren:=⟨fun|5=>271|8=>352|7=>351|19=>415|20=>416|10=>406|11=>407|12=>408|13=>409|14=>410|15=>411|16=>412|17=>413|18=>414|30=>453|31=>454|32=>455|33=>456|34=>457|35=>458|40=>472|n=>n,fun|23=>87|25=>3|3=>3|32=>310|22=>87|0=>0|44=>51|46=>32|4=>4|36=>618|35=>617|41=>622|5=>5|9=>9|53=>663|57=>667|63=>676|64=>677|n=>n,fun|n=>n⟩
theorem Tryz.sortI:Go.Proofs.SlLaysM.n5 Tryz.prog Tryz.sortI_ren:= {
 mixed:=by kernel_rfl
 f5:=⟨Tryz.f271.name,by decide,Tryz.func271.trans (congrArg some (by kernel_rfl))⟩
 f7:=⟨Tryz.f351.name,by decide,Tryz.func351.trans (congrArg some (by kernel_rfl))⟩
 f8:=Tryz.func352.trans (congrArg some (by kernel_rfl))
 f10:=⟨Tryz.f406.name,by decide,Tryz.func406.trans (congrArg some (by kernel_rfl))⟩
 f11:=⟨Tryz.f407.name,by decide,Tryz.func407.trans (congrArg some (by kernel_rfl))⟩
 f12:=⟨Tryz.f408.name,by decide,Tryz.func408.trans (congrArg some (by kernel_rfl))⟩
 f13:=⟨Tryz.f409.name,by decide,Tryz.func409.trans (congrArg some (by kernel_rfl))⟩
 f14:=⟨Tryz.f410.name,by decide,Tryz.func410.trans (congrArg some (by kernel_rfl))⟩
 f15:=⟨Tryz.f411.name,by decide,Tryz.func411.trans (congrArg some (by kernel_rfl))⟩
 f16:=⟨Tryz.f412.name,by decide,Tryz.func412.trans (congrArg some (by kernel_rfl))⟩
 f17:=⟨Tryz.f413.name,by decide,Tryz.func413.trans (congrArg some (by kernel_rfl))⟩
 f18:=⟨Tryz.f414.name,by decide,Tryz.func414.trans (congrArg some (by kernel_rfl))⟩
 f19:=Tryz.func415.trans (congrArg some (by kernel_rfl))
 f20:=Tryz.func416.trans (congrArg some (by kernel_rfl))
 f30:=⟨Tryz.f453.name,by decide,Tryz.func453.trans (congrArg some (by kernel_rfl))⟩
 f31:=Tryz.func454.trans (congrArg some (by kernel_rfl))
 f32:=Tryz.func455.trans (congrArg some (by kernel_rfl))
 f33:=⟨Tryz.f456.name,by decide,Tryz.func456.trans (congrArg some (by kernel_rfl))⟩
 f34:=⟨Tryz.f457.name,by decide,Tryz.func457.trans (congrArg some (by kernel_rfl))⟩
 f35:=⟨Tryz.f458.name,by decide,Tryz.func458.trans (congrArg some (by kernel_rfl))⟩
 f40:=⟨Tryz.f472.name,by decide,Tryz.func472.trans (congrArg some (by kernel_rfl))⟩
 t0:=Tryz.underlying0
 a0:=Tryz.isAgg0
 z0:=Tryz.sizeOf0
 v0:=Tryz.zeroValue0
 t3:=Tryz.underlying3
 a3:=Tryz.isAgg3
 z3:=Tryz.sizeOf3
 v3:=Tryz.zeroValue3
 t4:=Tryz.underlying4
 a4:=Tryz.isAgg4
 z4:=Tryz.sizeOf4
 v4:=Tryz.zeroValue4
 t5:=Tryz.underlying5
 a5:=Tryz.isAgg5
 z5:=Tryz.sizeOf5
 v5:=Tryz.zeroValue5
 t9:=Tryz.underlying9
 a9:=Tryz.isAgg9
 z9:=Tryz.sizeOf9
 v9:=Tryz.zeroValue9
 t22:=Tryz.underlying87
 a22:=Tryz.isAgg87
 z22:=Tryz.sizeOf87
 v22:=Tryz.zeroValue87
 t23:=Tryz.underlying87
 a23:=Tryz.isAgg87
 z23:=Tryz.sizeOf87
 v23:=Tryz.zeroValue87
 t25:=Tryz.underlying3
 a25:=Tryz.isAgg3
 z25:=Tryz.sizeOf3
 v25:=Tryz.zeroValue3
 t32:=Tryz.underlying310
 a32:=Tryz.isAgg310
 z32:=Tryz.sizeOf310
 v32:=Tryz.zeroValue310
 t35:=Tryz.underlying617
 a35:=Tryz.isAgg617
 z35:=Tryz.sizeOf617
 v35:=Tryz.zeroValue617
 t36:=Tryz.underlying618
 a36:=Tryz.isAgg618
 z36:=Tryz.sizeOf618
 v36:=Tryz.zeroValue618
 t41:=Tryz.underlying622
 a41:=Tryz.isAgg622
 z41:=Tryz.sizeOf622
 v41:=Tryz.zeroValue622
 t44:=Tryz.underlying51
 a44:=Tryz.isAgg51
 z44:=Tryz.sizeOf51
 v44:=Tryz.zeroValue51
 t46:=Tryz.underlying32
 a46:=Tryz.isAgg32
 z46:=Tryz.sizeOf32
 v46:=Tryz.zeroValue32
 t53:=Tryz.underlying663
 a53:=Tryz.isAgg663
 z53:=Tryz.sizeOf663
 v53:=Tryz.zeroValue663
 t57:=Tryz.underlying667
 a57:=Tryz.isAgg667
 z57:=Tryz.sizeOf667
 v57:=Tryz.zeroValue667
 t63:=Tryz.underlying676
 a63:=Tryz.isAgg676
 z63:=Tryz.sizeOf676
 v63:=Tryz.zeroValue676
 t64:=Tryz.underlying677
 a64:=Tryz.isAgg677
 z64:=Tryz.sizeOf677
 v64:=Tryz.zeroValue677 }
end Go.Proofs
namespace Go.Proofs.YthlchaldjekokaaGreat
open Go.PK
open Go.Shelf
theorem sortI_any(b cap n:Nat)(zs:List Int)(hn:zs.length=n)(hb:n<4611686018427387904):Spc Tryz.prog 271 #[aE (some b) n cap] [] [own (some b) cap 3 1 n (zs.map (Value.int .i64))] (fun v I' H'=>v=.tuple #[]∧I'=[]∧H'=[own (some b) cap 3 1 n ((zs.mergeSort fun x y=>decide (x≤y)).map (Value.int .i64))]):=
 sort_ints (fun blk off cap zs w h1 h2 h3=>AnyM.slices_Sort_int Tryz.sortI blk off cap zs w h1 h2 h3) b cap n 3 zs hn hb
theorem sortI_o(ob:Option Nat)(cap n:Nat)(zs:List Int)(hn:zs.length=n)(hb:n<4611686018427387904):Spc Tryz.prog 271 #[aE ob n cap] [] [own ob cap 3 1 n (zs.map (Value.int .i64))] (fun v I' H'=>v=.tuple #[]∧I'=[]∧H'=[own ob cap 3 1 n ((zs.mergeSort fun x y=>decide (x≤y)).map (Value.int .i64))]):=by
 cases ob with
 | some b=>exact sortI_any b cap n zs hn hb
 | none=>intro w hw;have hA:=hw.h _ (List.Mem.head _);have h0:n=0:=hA.2.1;subst h0;obtain rfl:zs=[]:=List.length_eq_zero_iff.1 hn;refine(AnyM.slices_Sort_int_none Tryz.sortI none cap w).mono ?_;rintro e' w' ⟨rfl,rfl⟩;exact⟨_,[],_,rfl,⟨rfl,rfl,rfl⟩,Keeps.refl _ _,⟨by simp,fun x hx=>by rw[List.mem_singleton.1 hx];simpa using hA,by simp[own],by simp⟩,fun c hc=>.inl hc,by simp⟩
end Go.Proofs.YthlchaldjekokaaGreat
namespace Go.Proofs.YthlchaldjekokaaGreat
open Go.PK
theorem RdI.sls{I:List It}{a:Addr}{n j:Nat}{l:List Int}{x:Int}(hm:sls (some a) 1 n (bO l)∈I)(h:l[j]?=some x):RdI I (a.add (j*1)) (.int .i64 x):=⟨fun _=>by
 rw[Nat.mul_one]
 exact Rds.rd (Rds.sls hm) (by rw[List.getElem?_map,h];rfl)⟩
def unint:Value→Int
 | .int _ n=>n
 | _=>0
theorem ints_back(l:List Int):(bO l).map unint=l:=by simp[bO,Function.comp_def,unint]
theorem ints_perm{a b:List Int}(h:(bO a).Perm (bO b)):a.Perm b:=by have:=h.map unint;rwa[ints_back,ints_back] at this
abbrev cn(l:List Int):List Int:=l.mergeSort fun x y=>decide (x≤y)
theorem sortL_perm{a b:List Int}(h:a.Perm b):cn a=cn b:=by
 have h1:(cn a).Perm (cn b):=(List.mergeSort_perm a _).trans (h.trans (List.mergeSort_perm b _).symm);have p:∀l:List Int,(cn l).Pairwise (fun x y=>x≤y):=fun l=>by have:=List.pairwise_mergeSort (le:=fun x y:Int=>decide (x≤y)) (fun a b c h1 h2=>by simp at*;omega) (fun a b=>by simp;omega) l;exact this.imp (fun h=>by simpa using h)
 exact h1.eq_of_pairwise (fun x y _ _ h1 h2=>Int.le_antisymm h1 h2) (p a) (p b)
theorem perm_erase{α:Type}:∀ {l:List α} {q:Nat} {p:α},l[q]?=some p→l.Perm (p::l.eraseIdx q)
 | a::l,0,p,h=>by
  obtain rfl:a=p:=by simpa using h
  simp
 | a::l,q+1,p,h=>by
  have:=perm_erase (l:=l) (q:=q) (p:=p) (by simpa using h)
  rw[List.eraseIdx_cons_succ]
  exact(this.cons a).trans (List.Perm.swap _ _ _)
theorem CW.tellAll{P:Program}{Q:Exit→Act→World→Prop}{N:Fm}{E:Env}{w0:World}{S:List Nat}{I H l:List It}{cc:Code}(hm:allI l∈I)
  (h:∀J,(∀x∈l,x∈J)→(∀x∈I,x∈J)→CW P cc Q N E w0 S J H):CW P cc Q N E w0 S I H:=fun a w ha hw=>
 h (l++I) (fun _ h=>List.mem_append_left _ h) (fun _ h=>List.mem_append_right _ h) a w ha
  ⟨hw.k,⟨fun x hx=>(List.mem_append.1 hx).elim (hw.s.i _ hm x) (hw.s.i x),hw.s.h,hw.s.nd,fun b hb=>by
   rw[cY] at hb
   rcases List.mem_append.1 hb with hb|hb
   ·exact hw.s.dj b (mem_bss.2 ⟨_,hm,hb⟩)
   ·exact hw.s.dj b hb⟩,hw.own⟩
abbrev eF(r m1 m2:Nat)(T:List One)(c:List (Value×Value)):List It:=dh r m1 m2::aN m1 aF (c1 T)::aN m2 c9 c::T.map dX
structure TOk(T:List One):Prop where
 k:∀o∈T,o.k.length=32
 e1:∀o∈T,1≤o.e
 e2:∀o∈T,o.e<4294967296
 s:∀o∈T,o.s<8
 g:∀o∈T,-1≤o.g
 nd:(T.map (·.s)).Nodup
def hasE(o:One)(e:Int):Bool:=e==(o.e:Int)||(e+1==(o.e:Int) && !(o.g== -1))
def kkeyV(T:List One)(s e:Int):Option Value:=match atO T s with
 | none=>none
 | some o=>if hasE o e=true then some (keyE o.k e.toNat) else none
def KOk(T:List One)(c:List (Value×Value)):Prop:=∀s e,aO (pl s e) c=kkeyV T s e
theorem atO_mem{T:List One}{s:Int}{o:One}(h:atO T s=some o):o∈T∧(o.s:Int)=s:=⟨List.mem_of_find?_eq_some h,by simpa using List.find?_some h⟩
def da(T:List One)(s:Int):Nat:=if cE s=true then match atO T s with
 | none=>0
 | some o=>o.e else 0
theorem epoch_any(r m1 m2:Nat)(T:List One)(c:List (Value×Value))(s:Int)(hT:TOk T):Spc Tryz.prog 199 #[.pointer (some ⟨r,0,none⟩),.int .i64 s] [allI (eF r m1 m2 T c)] [] (Is (.int .u32 (da T s:Int))):=by
 refine Spc.enter Tryz.func199 (h:=?_);refine fun w0 hw0=>?_;refine go 1 ?_;refine CW.tellAll (List.Mem.head _) (fun J h1 _=>?_);have mr:dh r m1 m2∈J:=h1 _ (by simp);have m1':aN m1 aF (c1 T)∈J:=h1 _ (by simp);have mo:∀o∈T,dX o∈J:=fun o ho=>h1 _ (by simp;exact .inr (.inr (.inr ⟨o,ho,rfl⟩)));refine go 8 ?_;refine ar (ge r m1 m2 T s true) (hl:=.inI mr (.inI m1' .nil)) (h:=go 9 ?_);by_cases hm:cE s=true
 ·cases ho:atO T s with
  | none=>rw[show cg T s true=(.pointer none,5) by simp[cg,hm,ho]];refine go 5 ?_;refine aI rfl ((by simp)) ?_;refine go 7 ?_;exact RQ.post (az rfl rfl) (aa _) ⟨by rw[da,if_pos hm,ho];rfl,rfl,rfl⟩
  | some o=>obtain⟨hoT,-⟩:=atO_mem ho;have g1:RdI J ⟨o.b,0+32,none⟩ (.int .u32 (o.e:Int)):=⟨fun _=>aD (mo o hoT) (one_e (hT.k o hoT))⟩;rw[show cg T s true=(.pointer (some ⟨o.b,0,none⟩),0) by simp[cg,hm,ho]];refine go 5 ?_;refine ag rfl ((by simp)) ?_;refine go 12 ?_;exact RQ.post (az rfl rfl) (aa _) ⟨by rw[da,if_pos hm,ho],rfl,rfl⟩
 ·rw[show cg T s true=(.pointer none,2) by simp[cg,hm]];refine go 5 ?_;refine aI rfl ((by simp)) ?_;refine go 7 ?_;exact RQ.post (az rfl rfl) (aa _) ⟨by rw[da,if_neg hm];rfl,rfl,rfl⟩
def goesB(o:One)(e:Nat)(t:Int):Bool:=hasE o (e:Int)&&(decide ((e:Int)=(o.e:Int))||decide (t≤o.g))
def jd(T:List One)(s:Int)(e:Nat)(t:Int):List B8×Int:=if eM t=true∧cE s=true then match atO T s with
 | none=>(zeros,5)
 | some o=>if goesB o e t=true then(d8 o.k gK e,0) else(zeros,160) else(zeros,2)
theorem keyM_len(T:List One)(s:Int)(e:Nat)(t:Int):(jd T s e t).1.length=32:=by
 unfold jd;split
 ·split
  ·rfl
  ·split
   ·exact derive_len _ _ _
   ·rfl
 ·rfl
theorem key_any(r m1 m2:Nat)(T:List One)(c:List (Value×Value))(s:Int)(e:Nat)(t:Int)(hT:TOk T)(hc:KOk T c)(he:e<4294967296):Spc Tryz.prog 322 #[.pointer (some ⟨r,0,none⟩),.int .i64 s,.int .u32 (e:Int),.int .i64 t] [allI (eF r m1 m2 T c)] [] (Is (.tuple #[.agg (bytes (jd T s e t).1).toArray,.int .i64 (jd T s e t).2])):=by
 refine Spc.enter Tryz.func322 (h:=?_);refine fun w0 hw0=>?_;refine go 7 ?_;intro b1;refine CW.tellAll (List.Mem.head _) (fun J h1 _=>?_);have mr:dh r m1 m2∈J:=h1 _ (by simp);have m1':aN m1 aF (c1 T)∈J:=h1 _ (by simp);have m2':aN m2 c9 c∈J:=h1 _ (by simp);have mo:∀o∈T,dX o∈J:=fun o ho=>h1 _ (by simp;exact .inr (.inr (.inr ⟨o,ho,rfl⟩)));refine go 4 ?_;refine ab (ktick_any t) (h:=?_);refine ar (ge r m1 m2 T s (eM t)) (hl:=.inI mr (.inI m1' .nil)) (h:=go 9 ?_);by_cases hm:eM t=true∧cE s=true
 ·cases ho:atO T s with
  | none=>rw[show cg T s (eM t)=(.pointer none,5) by simp[cg,hm,ho]];refine go 5 ?_;refine aI rfl ((by simp)) ?_;refine go 2 ?_;refine bi _ (ho:=rfl) (h:=go 1 ?_);refine an (ho:=rfl) (h:=?_);refine go 5 ?_;exact RQ.post (bG rfl rfl rfl KA31.h KS31.h mQ rfl) (aa _) ⟨by rw[jd,if_pos hm,ho];rfl,rfl,rfl⟩
  | some o=>
   obtain⟨hoT,-⟩:=atO_mem ho;have q1:RdI J ⟨r,0+1,none⟩ (.map (some m2)):=⟨fun _=>aD mr rfl⟩;have g1:RdI J ⟨o.b,0+32,none⟩ (.int .u32 (o.e:Int)):=⟨fun _=>aD (mo o hoT) (one_e (hT.k o hoT))⟩;have g2:RdI J ⟨o.b,0+33,none⟩ (.int .i64 o.g):=⟨fun _=>aD (mo o hoT) (one_g (hT.k o hoT))⟩;rw[show cg T s (eM t)=(.pointer (some ⟨o.b,0,none⟩),0) by simp[cg,hm,ho]];refine go 5 ?_;refine ag rfl ((by simp)) ?_;refine go 11 ?_;refine ga keyP KU450.h KZ31.h rfl rfl rfl rfl rfl ⟨s,(e:Int),rfl⟩ (eS m2') ?_;have hl:aO (.agg #[.int .i64 s,.int .u32 (e:Int)]) c=if hasE o (e:Int)=true then some (keyE o.k e) else none:=by rw[show aO (.agg #[.int .i64 s,.int .u32 (e:Int)]) c=kkeyV T s e from hc s e,kkeyV,ho];rfl
   rw[hl];by_cases hE:hasE o (e:Int)=true
   ·rw[if_pos hE];refine go 4 ?_;intro b2;refine an (ho:=rfl) (h1:=bC fh _) (hv:=lQ) (h:=?_);refine go 9 ?_;apply au (d:=39) (dp:=54) (l':=(Sq.of [])) rfl (sK [8,11,12] rfl)
    ·intro hb3 K3;refine go 7 ?_;apply aL (d:=46) (dp:=53) (l':=(Sq.of [17])) rfl (sK [8,11,12,39] rfl)
     ·intro hb10 K10;refine go 7 ?_;exact K10 _ (.cons rfl (sK [8,11,12,39] rfl))
     ·intro hb10 K10;refine go 7 ?_;exact K10 _ (.cons rfl (sK [8,11,12,39] rfl))
     refine go 1 ?_;exact K3 _ (.cons rfl (sK [8,11,12] rfl))
    ·intro hb3 K3;refine go 15 ?_;exact K3 _ (.cons rfl (sK [8,11,12] rfl))
    refine go 2 ?_;refine CW.cond rfl (fun hg=>?_) (fun hg=>?_)
    ·refine go 2 ?_;refine bi _ (ho:=rfl) (h:=?_);refine an (ho:=rfl) (h:=?_);refine go 5 ?_;exact RQ.post (bG rfl rfl rfl KA31.h KS31.h mQ rfl) (aa _) ⟨by rw[jd,if_pos hm,ho];dsimp only;rw[if_neg (by simp[goesB,hE];simp at hg;omega)];rfl,rfl,rfl⟩
    ·refine go 6 ?_;refine an (ho:=rfl) (h1:=bC fh _) (hv:=lQ) (h:=?_);refine go 4 ?_;exact RQ.post (bG rfl rfl rfl KA31.h KS31.h mQ lQ) (aa _) ⟨by rw[jd,if_pos hm,ho];dsimp only;rw[if_pos (by simp[goesB,hE];simp at hg;omega)];rfl,rfl,rfl⟩
   ·rw[if_neg hE];refine go 4 ?_;intro b2;refine an (ho:=rfl) (h:=?_);refine go 9 ?_;apply au (d:=39) (dp:=54) (l':=(Sq.of [])) rfl (sK [8,11,12] rfl)
    ·intro hb3 K3;refine go 7 ?_;apply aL (d:=46) (dp:=53) (l':=(Sq.of [17])) rfl (sK [8,11,12,39] rfl)
     ·intro hb10 K10;refine go 7 ?_;exact K10 _ (.cons rfl (sK [8,11,12,39] rfl))
     ·intro hb10 K10;refine go 7 ?_;exact K10 _ (.cons rfl (sK [8,11,12,39] rfl))
     refine go 1 ?_;exact K3 _ (.cons rfl (sK [8,11,12] rfl))
    ·intro hb3 K3;refine go 15 ?_;exact K3 _ (.cons rfl (sK [8,11,12] rfl))
    refine go 2 ?_;refine aI rfl ((by simp)) ?_;refine go 2 ?_;refine bi _ (ho:=rfl) (h:=?_);refine an (ho:=rfl) (h:=?_);refine go 5 ?_;exact RQ.post (bG rfl rfl rfl KA31.h KS31.h mQ rfl) (aa _) ⟨by rw[jd,if_pos hm,ho];dsimp only;rw[if_neg (by simp[goesB,hE])];rfl,rfl,rfl⟩
 ·rw[show cg T s (eM t)=(.pointer none,2) by simp[cg,hm]];refine go 5 ?_;refine aI rfl ((by simp)) ?_;refine go 2 ?_;refine bi _ (ho:=rfl) (h:=go 1 ?_);refine an (ho:=rfl) (h:=?_);refine go 5 ?_;exact RQ.post (bG rfl rfl rfl KA31.h KS31.h mQ rfl) (aa _) ⟨by rw[jd,if_neg hm];rfl,rfl,rfl⟩
theorem atO_mid{A B:List One}{o:One}(h:∀x∈A++B,x.s≠o.s)(s:Int):atO (A++o::B) s=if s=(o.s:Int) then some o else atO (A++B) s:=by
 have hA:∀x∈A,x.s≠o.s:=fun x hx=>h x (by simp[hx]);clear h
 induction A with
 | nil=>
  by_cases hs:s=(o.s:Int)
  ·subst hs;simp[atO]
  ·simp[atO,hs,Ne.symm hs]
 | cons a A ih=>
  have ha:=hA a (by simp);have ih:=ih (fun x hx=>hA x (by simp[hx]));simp only[atO] at ih ⊢;by_cases h1:(a.s:Int)=s
  ·have: ¬s=(o.s:Int):=by omega
   simp[h1,this]
  ·simp[h1,ih]
theorem keyV_mid{A B:List One}{o:One}(h:∀x∈A++B,x.s≠o.s)(s e:Int):kkeyV (A++o::B) s e=if s=(o.s:Int) then(if hasE o e=true then some (keyE o.k e.toNat) else none) else kkeyV (A++B) s e:=by
 rw[kkeyV,atO_mid h,kkeyV];by_cases hs:s=(o.s:Int)
 ·rw[if_pos hs,if_pos hs]
 ·rw[if_neg hs,if_neg hs]
theorem KOk.enter{A B:List One}{o:One}{e':Nat}{g':Int}{c c':List (Value×Value)}(hA:∀x∈A++B,x.s≠o.s)(hc:∀s e,s≠(o.s:Int)→aO (pl s e) c=kkeyV (A++B) s e)(hg:g'= -1∨(e'=o.e+1∧g'≠ -1∧aO (pl (o.s:Int) (o.e:Int)) c=some (keyE o.k o.e)))(h:∀s e,aO (pl s e) c'=if s=(o.s:Int)∧e=(e':Int) then some (keyE o.k e') else if delB o g' s e=true then none else aO (pl s e) c):KOk (A++ { o with e:=e',g:=g' }::B) c':=by
 intro s e;rw[h,keyV_mid (o:= { o with e:=e',g:=g' }) hA];by_cases hs:s=(o.s:Int)
 ·subst hs;rw[if_pos (show(o.s:Int)=(({ o with e:=e',g:=g' }:One).s:Int) from rfl)];by_cases he:e=(e':Int)
  ·subst he;rw[if_pos ⟨rfl,rfl⟩,if_pos (by simp[hasE])];rfl
  ·rw[if_neg (fun h=>he h.2)];rcases hg with rfl|⟨rfl,hg,hl⟩
   ·rw[if_pos (by simp[delB]),if_neg (by simp[hasE,he])]
   ·by_cases h2:e=(o.e:Int)
    ·subst h2;rw[if_neg (by simp[delB,hg]),hl,if_pos (by simp[hasE,hg])];rfl
    ·rw[if_pos (by simp[delB,h2]),if_neg (by simp[hasE,he];omega)]
 ·rw[if_neg (fun h=>hs h.1),if_neg (by simp[delB,hs]),if_neg hs];exact hc s e hs
def setT(T:List One)(s:Int)(e':Nat)(g':Int):List One:=T.map fun o=>if (o.s:Int)=s then { o with e:=e',g:=g' } else o
theorem setT_mid{A B:List One}{o:One}{s:Int}(hs:(o.s:Int)=s)(h:∀x∈A++B,x.s≠o.s)(e':Nat)(g':Int):setT (A++o::B) s e' g'=A++ { o with e:=e',g:=g' }::B:=by
 have hid:∀l:List One,(∀x∈l,x.s≠o.s)→l.map (fun o=>if (o.s:Int)=s then { o with e:=e',g:=g' } else o)=l:=fun l hl=>by
  conv=>rhs;rw[←List.map_id l]
  exact List.map_congr_left (fun x hx=>by rw[if_neg (by have:=hl x hx;omega)];rfl)
 rw[setT,List.map_append,List.map_cons,hid A (fun x hx=>h x (by simp[hx])),hid B (fun x hx=>h x (by simp[hx])),if_pos hs]
theorem c1_set(T:List One)(s:Int)(e':Nat)(g':Int):c1 (setT T s e' g')=c1 T:=by rw[c1,c1,setT,List.map_map];exact List.map_congr_left (fun x _=>by by_cases h:(x.s:Int)=s<;>simp[h])
theorem TOk.set{T:List One}(h:TOk T)(s:Int){e':Nat}{g':Int}(h1:1≤e')(h2:e'<4294967296)(h3: -1≤g'):TOk (setT T s e' g'):=by
 have hm:∀ {p:One→Prop},(∀o∈T,p o)→(∀o∈T,p { o with e:=e',g:=g' })→∀o∈setT T s e' g',p o:=by
  intro p k1 k2 o ho;obtain⟨x,hx,rfl⟩:=List.mem_map.1 ho;split
  ·exact k2 x hx
  ·exact k1 x hx
 refine⟨hm h.k h.k,hm h.e1 (fun _ _=>h1),hm h.e2 (fun _ _=>h2),hm h.s h.s,hm h.g (fun _ _=>h3),?_⟩;rw[setT,List.map_map];have:T.map ((·.s) ∘ fun o=>if (o.s:Int)=s then { o with e:=e',g:=g' } else o)=T.map (·.s):=List.map_congr_left (fun x _=>by by_cases h:(x.s:Int)=s<;>simp[h])
 rw[this];exact h.nd
theorem atO_split{T:List One}(h:TOk T){s:Int}{o:One}(ho:atO T s=some o):∃A B,T=A++o::B∧(∀x∈A++B,x.s≠o.s):=by
 obtain⟨hm,-⟩:=atO_mem ho;obtain⟨A,B,rfl⟩:=List.append_of_mem hm;refine⟨A,B,rfl,fun x hx e=>?_⟩;have hnd:=h.nd;rw[List.map_append,List.map_cons,List.nodup_append,List.nodup_cons] at hnd;obtain⟨h1,⟨h2,h3⟩,h4⟩:=hnd;rcases List.mem_append.1 hx with hx|hx
 ·exact h4 x.s (List.mem_map.2 ⟨x,hx,rfl⟩) o.s (by simp) e
 ·exact h2 (List.mem_map.2 ⟨x,hx,e⟩)
theorem ring_perm(r m1 m2:Nat)(A B:List One)(o:One)(c:List (Value×Value))(k:List (Value×Value)):(dh r m1 m2::aN m1 aF k::aN m2 c9 c::(A++o::B).map dX).Perm (aN m2 c9 c::dh r m1 m2::dX o::aN m1 aF k::(A++B).map dX):=by
 have h1:((A++o::B).map dX).Perm (dX o::(A++B).map dX):=by rw[List.map_append,List.map_cons,List.map_append];exact List.perm_middle
 have h2:=(((h1.cons (aN m2 c9 c)).cons (aN m1 aF k)).cons (dh r m1 m2));refine h2.trans ?_;generalize (A++B).map dX=R;generalize dh r m1 m2=a;generalize aN m1 aF k=b;generalize aN m2 c9 c=d;generalize dX o=x;exact((List.Perm.swap d b (x::R)).cons a).trans ((List.Perm.swap d a _).trans (((List.Perm.swap x b R).cons a).cons d))
section
variable {P:Program} {Q:Exit→Act→World→Prop} {N:Fm} {E:Env} {w0:World} {S:List Nat} {I H l:List It} {cc:Code}
theorem CW.unpack1(h:CW P cc Q N E w0 S I l):CW P cc Q N E w0 S I [allI l]:=CW.unpack (by rw[List.append_nil];exact h)
theorem RQ.pack1(h:RQ Q N E w0 S I [allI l]):RQ Q N E w0 S I l:=by have:=RQ.pack (l:=l) (B:=[]) h;rwa[List.append_nil] at this
theorem ring_perm2(r m1 m2:Nat)(A B:List One)(o:One)(c k:List (Value×Value)):(dh r m1 m2::aN m1 aF k::aN m2 c9 c::(A++o::B).map dX).Perm ((A++B).map dX++[dh r m1 m2,aN m2 c9 c,dX o,aN m1 aF k]):=by refine((ring_perm r m1 m2 A B o c k).trans (List.Perm.swap _ _ _)).trans ?_;generalize (A++B).map dX=R;exact(List.perm_append_comm (l₁:=[dh r m1 m2,aN m2 c9 c,dX o,aN m1 aF k]) (l₂:=R))
theorem CW.ringOpen{r m1 m2:Nat}{A B:List One}{o:One}{c:List (Value×Value)}(h:CW P cc Q N E w0 S I [allI ((A++B).map dX),dh r m1 m2,aN m2 c9 c,dX o,aN m1 aF (c1 (A++o::B))]):CW P cc Q N E w0 S I [allI (eF r m1 m2 (A++o::B) c)]:=
 CW.unpack1 (CW.perm (ring_perm2 r m1 m2 A B o c _) (CW.pack h))
theorem gu{r m1 m2:Nat}{A B:List One}{o:One}{c:List (Value×Value)}(hr:Rea H [allI ((A++B).map dX),dh r m1 m2,aN m2 c9 c,dX o,aN m1 aF (c1 (A++o::B))])(h:RQ Q N E w0 S I [allI (eF r m1 m2 (A++o::B) c)]):RQ Q N E w0 S I H:=fun a w ha hw=>by
 have h1:=(hw.rea (fun _ h=>h) hr).unpack
 have h2:=h1.perm (ring_perm2 r m1 m2 A B o c (c1 (A++o::B))).symm
 exact RQ.pack1 h a w ha h2
end
def fF(T:List One)(s:Int)(e':Nat):Int:=if cE s=true then match atO T s with
 | none=>5
 | some o=>if e'<o.e then 160 else 0 else 2
def eI(T:List One)(s:Int)(e':Nat):List One:=if cE s=true then match atO T s with
 | none=>T
 | some o=>if o.e<e' then setT T s e' (-1) else T else T
def RingR(r m1 m2:Nat)(T:List One)(x:Int):Value→List It→List It→Prop:=fun v I' H'=>v=.int .i64 x∧I'=[]∧∃c,KOk T c∧H'=[allI (eF r m1 m2 T c)]
theorem raise_any(r m1 m2:Nat)(T:List One)(c:List (Value×Value))(s:Int)(e':Nat)(hT:TOk T)(hc:KOk T c)(he:e'<4294967296):Spc Tryz.prog 263 #[.pointer (some ⟨r,0,none⟩),.int .i64 s,.int .u32 (e':Int)] [] [allI (eF r m1 m2 T c)] (RingR r m1 m2 (eI T s e') (fF T s e')):=by
 refine Spc.enter Tryz.func263 (h:=?_);refine fun w0 hw0=>?_;refine go 6 ?_;by_cases hm:cE s=true
 ·cases ho:atO T s with
  | none=>
   have hf:cg T s true=(.pointer none,5):=by simp[cg,hm,ho]
   refine CW.unpack1 (go 3 ?_);refine ab (ge r m1 m2 T s true) (h:=?_);refine go 10 ?_;rw[hf];refine go 6 ?_;refine aI rfl ((by simp)) ?_;refine go 9 ?_;refine RQ.pack1 (l:=eF r m1 m2 T c) ?_;exact RQ.post (az rfl rfl) (.keep .nil) ⟨by rw[fF,if_pos hm,ho];rfl,rfl,c,by rw[eI,if_pos hm,ho];exact hc,by rw[eI,if_pos hm,ho]⟩
  | some o=>
   obtain⟨hoT,hos⟩:=atO_mem ho;obtain⟨A,B,hAB,hd⟩:=atO_split hT ho;have hk:=hT.k o hoT;have h0:=hT.e2 o hoT;have g1:=one_e hk;have hf:cg T s true=(.pointer (some ⟨o.b,0,none⟩),0):=by simp[cg,hm,ho]
   rw[show eF r m1 m2 T c=eF r m1 m2 (A++o::B) c by rw[hAB]];refine CW.ringOpen ?_;rw[←hAB];refine go 3 ?_;refine ab (ge r m1 m2 T s true) (h:=?_);refine go 10 ?_;rw[hf];subst hos;refine go 6 ?_;refine ag rfl ((by simp)) ?_;refine go 11 ?_;refine CW.cond rfl (fun h1=>?_) (fun h1=>?_)
   ·refine go 8 ?_;have h1:e'<o.e:=by simp at h1;omega
    refine gu (A:=A) (B:=B) (o:=o) (by rw[hAB];exact rE) ?_;rw[←hAB];exact RQ.post (az rfl rfl) (.keep .nil) ⟨by rw[fF,if_pos hm,ho];dsimp only;rw[if_pos h1],rfl,c,by rw[eI,if_pos hm,ho];dsimp only;rw[if_neg (by omega)];exact hc,by rw[eI,if_pos hm,ho];dsimp only;rw[if_neg (by omega)]⟩
   ·refine go 11 ?_;have h1: ¬e'<o.e:=by simp at h1;omega
    refine CW.cond rfl (fun h2=>?_) (fun h2=>?_)
    ·refine go 5 ?_;refine ax (enter_any r m1 m2 o c e' (-1) hk h0 he) (hb:=.inr rfl) (h:=?_);have h2:o.e<e':=by simp at h2;omega
     rintro _ _ _ ⟨rfl,rfl,c',hsp,rfl⟩;refine go 10 ?_;have hset:setT T (o.s:Int) e' (-1)=A++ { o with e:=e',g:= -1 }::B:=by rw[hAB];exact setT_mid rfl hd e' (-1)
     refine gu (A:=A) (B:=B) (o:= { o with e:=e',g:= -1 }) (by rw[←hset,c1_set];exact rE) ?_;have hc':KOk (A++ { o with e:=e',g:= -1 }::B) c':=KOk.enter hd (fun s e hs=>by rw[hc s e,hAB,keyV_mid hd,if_neg hs]) (.inl rfl) hsp;rw[←hset] at hc' ⊢;exact RQ.post (az rfl rfl) (.keep .nil) ⟨by rw[fF,if_pos hm,ho];dsimp only;rw[if_neg h1];rfl,rfl,c',by rw[eI,if_pos hm,ho];dsimp only;rw[if_pos h2];exact hc',by rw[eI,if_pos hm,ho];dsimp only;rw[if_pos h2]⟩
    ·refine go 10 ?_;have h2: ¬o.e<e':=by simp at h2;omega
     refine gu (A:=A) (B:=B) (o:=o) (by rw[hAB];exact rE) ?_;rw[←hAB];exact RQ.post (az rfl rfl) (.keep .nil) ⟨by rw[fF,if_pos hm,ho];dsimp only;rw[if_neg h1];rfl,rfl,c,by rw[eI,if_pos hm,ho];dsimp only;rw[if_neg h2];exact hc,by rw[eI,if_pos hm,ho];dsimp only;rw[if_neg h2]⟩
 ·have hf:cg T s true=(.pointer none,2):=by simp[cg,hm]
  refine CW.unpack1 (go 3 ?_);refine ab (ge r m1 m2 T s true) (h:=?_);refine go 10 ?_;rw[hf];refine go 6 ?_;refine aI rfl ((by simp)) ?_;refine go 9 ?_;refine RQ.pack1 (l:=eF r m1 m2 T c) ?_;exact RQ.post (az rfl rfl) (.keep .nil) ⟨by rw[fF,if_neg hm];rfl,rfl,c,by rw[eI,if_neg hm];exact hc,by rw[eI,if_neg hm]⟩
section
variable {P:Program} {Q:Exit→Act→World→Prop} {N:Fm} {E:Env} {w0:World} {S:List Nat} {I H B:List It} {cc:Code}
theorem CW.ringOpen0{r m1 m2:Nat}{T:List One}{c:List (Value×Value)}(h:CW P cc Q N E w0 S I (allI (T.map dX)::dh r m1 m2::aN m2 c9 c::aN m1 aF (c1 T)::B)):CW P cc Q N E w0 S I (allI (eF r m1 m2 T c)::B):=
 CW.unpack (CW.perm (by
  show(dh r m1 m2::aN m1 aF (c1 T)::aN m2 c9 c::(T.map dX++B)).Perm (T.map dX++(dh r m1 m2::aN m2 c9 c::aN m1 aF (c1 T)::B))
  generalize T.map dX=R
  generalize dh r m1 m2=a
  generalize aN m1 aF (c1 T)=b
  generalize aN m2 c9 c=d
  refine((List.Perm.swap d b (R++B)).cons a).trans ?_
  have:R++a::d::b::B=R++([a,d,b]++B):=rfl
  rw[this,←List.append_assoc]
  exact(List.perm_append_comm (l₁:=[a,d,b]) (l₂:=R)).append_right B) (CW.pack h))
theorem RQ.ringClose0{r m1 m2:Nat}{T:List One}{c:List (Value×Value)}(hr:Rea H [allI (T.map dX),dh r m1 m2,aN m2 c9 c,aN m1 aF (c1 T)])(h:RQ Q N E w0 S I [allI (eF r m1 m2 T c)]):RQ Q N E w0 S I H:=fun a w ha hw=>by
 have h1:=(hw.rea (fun _ h=>h) hr).unpack
 have hp:(T.map dX++[dh r m1 m2,aN m2 c9 c,aN m1 aF (c1 T)]).Perm (eF r m1 m2 T c):=by
  refine List.perm_append_comm.trans ?_
  exact(List.Perm.swap _ _ _).cons _
 exact RQ.pack1 h a w ha (h1.perm hp)
end
def NewR:Value→List It→List It→Prop:=fun v I' H'=>∃r m1 m2,v=.pointer (some ⟨r,0,none⟩)∧I'=[]∧H'=[allI (eF r m1 m2 [] [])]
theorem tok_nil:TOk []:=⟨by simp,by simp,by simp,by simp,by simp,by simp⟩
theorem kok_nil:KOk [] []:=fun _ _=>rfl
def kputE(T:List One)(s:Int):Int:=if cE s=true then match atO T s with
 | none=>0
 | some _=>6 else 2
def putT(T:List One)(s:Int)(k:List B8)(b:Nat):List One:=if cE s=true then match atO T s with
 | none=>T++[⟨s.toNat,k,1,-1,b⟩]
 | some _=>T else T
theorem kfill_one{k:List B8}{n b:Nat}(h:k.length=32){places:Array (Nat×Nat)}(hp:places= #[(0,32),(32,1),(33,1)]):bX (places[·]?) (bytes zeros++[.int .u32 0,.int .i64 0]) [(0,.agg (bytes k).toArray)]=some (One.cells ⟨n,k,0,0,b⟩):=by subst hp;refine aK [] (bytes zeros) [.int .u32 0,.int .i64 0] rfl (cq _) rfl rfl rfl (by simp[h]) ?_;simp[One.cells,bX]
theorem new_keys:Spc Tryz.prog 182 #[] [] [] NewR:=by refine Spc.enter Tryz.func182 (h:=?_);refine fun w0 hw0=>?_;refine go 7 ?_;refine RL.makeMap (good:=aF) (h:=?_);refine fun m1=>?_;refine RL.makeMap (good:=c9) (h:=?_);refine fun m2=>?_;refine go 6 ?_;intro b1;refine RQ.perm ((List.Perm.swap _ _ _).cons _) (RQ.pack1 (l:=eF b1 m1 m2 [] []) ?_);exact RQ.post (az rfl rfl) (.keep .nil) ⟨b1,m1,m2,rfl,rfl,rfl⟩
theorem kput_any(r m1 m2:Nat)(T:List One)(c:List (Value×Value))(s:Int)(k:List B8)(hk:k.length=32)(hT:TOk T)(hc:KOk T c):Spc Tryz.prog 262 #[.pointer (some ⟨r,0,none⟩),.int .i64 s,.agg (bytes k).toArray] [] [allI (eF r m1 m2 T c)] (fun v I' H'=>v=.int .i64 (kputE T s)∧I'=[]∧∃b c',KOk (putT T s k b) c'∧H'=[allI (eF r m1 m2 (putT T s k b) c')]):=by
 refine Spc.enter Tryz.func262 (h:=?_);refine fun w0 hw0=>?_;refine go 7 ?_;intro b1;refine CW.perm (List.Perm.swap _ _ _) (CW.ringOpen0 ?_);by_cases hm:cE s=true
 ·cases ho:atO T s with
  | none=>
   have hf:cg T s true=(.pointer none,5):=by simp[cg,hm,ho]
   refine go 3 ?_;refine ab (ge r m1 m2 T s true) (h:=?_);refine go 8 ?_;rw[hf];obtain⟨n,rfl⟩:∃n:Nat,s=(n:Int):=⟨s.toNat,by simp[cE] at hm;omega⟩;have hn8:n<8:=by simp[cE] at hm;omega
   have hd:∀x∈T++[],x.s≠n:=fun x hx e=>by rw[List.append_nil] at hx;have:=List.find?_eq_none.1 ho x hx;simp[e] at this
   refine go 11 ?_;refine ag rfl ((by simp)) ?_;refine go 6 ?_;refine aI rfl ((by simp)) ?_;refine go 1 ?_;refine ae (Sq.of [0,1,2,3,4,5,6,7,8]) [7,8] [8] [0,1,2,4,6] (h:=?_);refine go 6 ?_;refine ay (One.cells ⟨n,k,0,0,0⟩) (ho:=rfl) (hf:=kfill_one hk rfl) (h:=?_);refine RL.box (cs:=One.cells ⟨n,k,0,0,0⟩) rfl rfl rfl rfl rfl rfl (fun bo=>?_);refine RL.mapUpdate keyI (ho:=rfl) (hk:=⟨(n:Int),rfl⟩) (hup:=uE) (h:=?_);refine go 3 ?_;refine CW.rea (fun _ h=>h) (H':=[dh r m1 m2,aN m2 c9 c,dX ⟨n,k,0,0,bo⟩,allI (T.map dX),aN m1 aF (cD (.int .i64 (n:Int)) (.pointer (some ⟨bo,0,none⟩)) (c1 T))]) rE ?_;refine go 8 ?_;refine RL.lookup keyI (ho:=rfl) (hk:=⟨(n:Int),rfl⟩) (hm:=MapAt.own mQ) (h:=?_);rw[fd,if_pos rfl];refine ax (enter_any r m1 m2 ⟨n,k,0,0,bo⟩ c 1 (-1) hk (by show 0<4294967296;decide) (by decide)) (hb:=.inr rfl) (h:=?_);rintro _ _ _ ⟨rfl,rfl,c',hsp,rfl⟩;refine go 9 ?_;have hc':KOk (T++ { (⟨n,k,0,0,bo⟩:One) with e:=1,g:= -1 }::[]) c':=KOk.enter hd (fun s e hs=>by rw[hc s e,List.append_nil]) (.inl rfl) hsp;have hset:cD (.int .i64 (n:Int)) (.pointer (some ⟨bo,0,none⟩)) (c1 T)=c1 (T++[⟨n,k,1,-1,bo⟩]):=by rw[gd (by rw[look_c1,ho];rfl),c1,c1,List.map_append];rfl
   rw[hset];refine gu (A:=T) (B:=[]) (o:=⟨n,k,1,-1,bo⟩) (by rw[List.append_nil];exact rE) ?_;have hp:putT T (n:Int) k bo=T++[⟨n,k,1,-1,bo⟩]:=by rw[putT,if_pos hm,ho];rfl
   exact RQ.post (az rfl rfl) (.keep .nil) ⟨by rw[kputE,if_pos hm,ho],rfl,bo,c',by rw[hp];exact hc',by rw[hp]⟩
  | some o=>
   have hf:cg T s true=(.pointer (some ⟨o.b,0,none⟩),0):=by simp[cg,hm,ho]
   refine go 3 ?_;refine ab (ge r m1 m2 T s true) (h:=?_);refine go 8 ?_;rw[hf];refine go 11 ?_;refine aI rfl ((by simp)) ?_;refine go 7 ?_;refine RQ.ringClose0 (T:=T) rE ?_;exact RQ.post (az rfl rfl) (.keep .nil) ⟨by rw[kputE,if_pos hm,ho],rfl,0,c,by rw[putT,if_pos hm,ho];exact hc,by rw[putT,if_pos hm,ho]⟩
 ·have hf:cg T s true=(.pointer none,2):=by simp[cg,hm]
  refine go 3 ?_;refine ab (ge r m1 m2 T s true) (h:=?_);refine go 8 ?_;rw[hf];refine go 11 ?_;refine ag rfl ((by simp)) ?_;refine go 6 ?_;refine ag rfl ((by simp)) ?_;refine go 8 ?_;refine RQ.ringClose0 (T:=T) rE ?_;exact RQ.post (az rfl rfl) (.keep .nil) ⟨by rw[kputE,if_neg hm];rfl,rfl,0,c,by rw[putT,if_neg hm];exact hc,by rw[putT,if_neg hm]⟩
structure Lk where
 f:Int
 t:Int
 u:Int
def Lk.cells(x:Lk):List Value:=[.int .i64 x.f,.int .i64 x.t,.int .i64 x.u]
def eu(mo ti:Int)(l:List Lk):List Value:=.int .i64 mo:: .int .i64 ti::l.flatMap Lk.cells
abbrev kI(kb:Nat)(mo ti:Int)(l:List Lk):It:=cel kb (eu mo ti l) 343
theorem k_get{mo ti:Int}{l:List Lk}{s j:Nat}{x:Lk}(hx:l[s]?=some x){v:Value}(hj:x.cells[j]?=some v)(h3:j<3):(eu mo ti l)[0+2+s*3+j]?=some v:=by rw[show 0+2+s*3+j=(s*3+j)+1+1 by omega,eu,List.getElem?_cons_succ,List.getElem?_cons_succ,eL (n:=3) (fun _ _=>rfl) hx h3];exact hj
theorem k_len(mo ti:Int)(l:List Lk):(eu mo ti l).length=l.length*3+2:=by simp[eu,ej (f:=Lk.cells) (n:=3) (fun _ _=>rfl)]
theorem k_split{l:List Lk}{s:Nat}{x:Lk}(hx:l[s]?=some x):∃A B,l=A++x::B∧A.length=s:=by obtain⟨hlt,rfl⟩:=List.getElem?_eq_some_iff.1 hx;exact⟨l.take s,l.drop (s+1),by rw[←List.drop_eq_getElem_cons hlt,List.take_append_drop],by simp;omega⟩
theorem k_set{mo ti:Int}{l:List Lk}{s j:Nat}{x y:Lk}{v:Value}(hx:l[s]?=some x)(h3:j<3)(hy:bP x.cells j [v]=y.cells):bP (eu mo ti l) (0+2+s*3+j) [v]=eu mo ti (l.set s y):=by
 obtain⟨A,B,rfl,rfl⟩:=k_split hx;have e:eu mo ti (A++x::B)=(.int .i64 mo:: .int .i64 ti::A.flatMap Lk.cells)++(x.cells++B.flatMap Lk.cells):=by simp[eu]
 have e':eu mo ti ((A++x::B).set A.length y)=(.int .i64 mo:: .int .i64 ti::A.flatMap Lk.cells)++(y.cells++B.flatMap Lk.cells):=by simp[eu]
 have hA:(.int .i64 mo:: .int .i64 ti::A.flatMap Lk.cells:List Value).length=0+2+A.length*3:=by simp[ej (f:=Lk.cells) (n:=3) (fun _ _=>rfl)];omega
 rw[e,e',←hA,spl_app,←hy];congr 1;have hb:j<x.cells.length:=h3;rw[spl_set (by rw[List.length_append];omega),spl_set hb,List.set_append_left _ _ hb]
def gZ(l:List Lk)(s t:Int):Int:=if cE s=true∧eM t=true then(match l[s.toNat]? with
 | some x=>if t<x.u then 180 else 0
 | none=>0) else 2
theorem lfind_yes(kb:Nat)(mo ti:Int)(l:List Lk)(s:Nat)(hmo:mo≠0)(h:s<8):Spc Tryz.prog 325 #[.pointer (some ⟨kb,0,none⟩),.int .i64 (s:Int)] [kI kb mo ti l] [] (Is (.tuple #[.pointer (some ⟨kb,0+2+s*3,none⟩),.int .i64 0])):=by
 refine Spc.enter Tryz.func325 (h:=?_);refine fun w0 hw0=>?_;refine go 11 ?_;refine bj (hr:=fb KU228.h _) (h:=go 1 ?_);apply au (d:=9) (dp:=15) (l':=(Sq.of [9])) rfl (sK [0,1,4,5] rfl)
 ·intro hb3 K3;refine go 6 ?_;exact K3 _ (.cons rfl (sK [0,1,4,5] rfl))
 ·intro hb3 K3;refine go 6 ?_;exact K3 _ (.cons rfl (sK [0,1,4,5] rfl))
 refine go 3 ?_;refine ag rfl ((by simp[hmo])) ?_;refine go 5 ?_;apply au (d:=19) (dp:=22) (l':=(Sq.of [6])) rfl (sK [0,1,4,5] rfl)
 ·intro hb3 K3;refine go 3 ?_;exact K3 _ (.cons rfl (sK [0,1,4,5] rfl))
 ·intro hb3 K3;refine go 3 ?_;exact K3 _ (.cons rfl (sK [0,1,4,5] rfl))
 refine go 3 ?_;refine ag rfl ((by simp;omega)) ?_;refine go 9 ?_;refine al (j:=s) (ho:=rfl) (hlt:=h) (h:=go 5 ?_);exact RQ.post (bb rfl rfl rfl) (aa _) ⟨rfl,rfl,rfl⟩
theorem lfind_no(kb:Nat)(mo ti:Int)(l:List Lk)(s:Int)(hmo:mo≠0)(h: ¬cE s=true):Spc Tryz.prog 325 #[.pointer (some ⟨kb,0,none⟩),.int .i64 s] [kI kb mo ti l] [] (Is (.tuple #[.pointer none,.int .i64 2])):=by
 refine Spc.enter Tryz.func325 (h:=?_);refine fun w0 hw0=>?_;refine go 11 ?_;refine bj (hr:=fb KU228.h _) (h:=go 1 ?_);apply au (d:=9) (dp:=15) (l':=(Sq.of [9])) rfl (sK [0,1,4,5] rfl)
 ·intro hb3 K3;refine go 6 ?_;exact K3 _ (.cons rfl (sK [0,1,4,5] rfl))
 ·intro hb3 K3;refine go 6 ?_;exact K3 _ (.cons rfl (sK [0,1,4,5] rfl))
 refine go 3 ?_;refine ag rfl ((by simp[hmo])) ?_;refine go 5 ?_;apply au (d:=19) (dp:=22) (l':=(Sq.of [6])) rfl (sK [0,1,4,5] rfl)
 ·intro hb3 K3;refine go 3 ?_;exact K3 _ (.cons rfl (sK [0,1,4,5] rfl))
 ·intro hb3 K3;refine go 3 ?_;exact K3 _ (.cons rfl (sK [0,1,4,5] rfl))
 refine go 3 ?_;refine aI rfl ((by simp[cE] at h;simp;omega)) ?_;refine go 9 ?_;exact RQ.post (bb rfl rfl rfl) (aa _) ⟨rfl,rfl,rfl⟩
theorem lopen_any(kb:Nat)(mo ti:Int)(l:List Lk)(s t:Int)(hmo:mo≠0)(hl:l.length=8):Spc Tryz.prog 321 #[.pointer (some ⟨kb,0,none⟩),.int .i64 s,.int .i64 t] [kI kb mo ti l] [] (Is (.tuple #[.pointer (if gZ l s t=0 then some ⟨kb,0+2+s.toNat*3,none⟩ else none),.int .i64 (gZ l s t)])):=by
 by_cases hm:cE s=true
 ·obtain⟨n,rfl⟩:∃n:Nat,s=(n:Int):=⟨s.toNat,by simp[cE] at hm;omega⟩;have h8:n<8:=by simp[cE] at hm;omega
  have hx:=List.getElem?_eq_getElem (show n<l.length by omega);generalize l[n]=x at hx;have g1:(eu mo ti l)[0+2+n*3+2]?=some (.int .i64 x.u):=k_get hx rfl (by omega);refine Spc.enter Tryz.func321 (h:=?_);refine fun w0 hw0=>?_;refine go 10 ?_;refine ab (lfind_yes kb mo ti l n hmo h8) (h:=?_);refine go 16 ?_;refine ag rfl ((by simp)) ?_;refine go 5 ?_;apply au (d:=23) (dp:=26) (l':=(Sq.of [6])) rfl (sK [2,8,9] rfl)
  ·intro hb3 K3;refine go 3 ?_;exact K3 _ (.cons rfl (sK [2,8,9] rfl))
  ·intro hb3 K3;refine go 3 ?_;exact K3 _ (.cons rfl (sK [2,8,9] rfl))
  refine go 3 ?_;refine CW.cond rfl (fun ht=>?_) (fun ht=>?_)
  ·refine go 9 ?_;have hk:gZ l (n:Int) t=2:=by rw[gZ,if_neg];simp[eM];simp at ht;intros;omega
   exact RQ.post (bb rfl rfl rfl) (aa _) ⟨by rw[hk];rfl,rfl,rfl⟩
  ·refine go 11 ?_;have ht:eM t=true:=by simp[eM];simp at ht;omega
   refine CW.cond rfl (fun hu=>?_) (fun hu=>?_)
   ·refine go 9 ?_;have hk:gZ l (n:Int) t=180:=by rw[gZ,if_pos ⟨hm,ht⟩,Int.toNat_natCast,hx];dsimp only;rw[if_pos (by simpa using hu)]
    exact RQ.post (bb rfl rfl rfl) (aa _) ⟨by rw[hk];rfl,rfl,rfl⟩
   ·refine go 12 ?_;have hk:gZ l (n:Int) t=0:=by rw[gZ,if_pos ⟨hm,ht⟩,Int.toNat_natCast,hx];dsimp only;rw[if_neg (by simpa using hu)]
    exact RQ.post (bb rfl rfl rfl) (aa _) ⟨by rw[hk];rfl,rfl,rfl⟩
 ·have hk:gZ l s t=2:=by rw[gZ,if_neg (fun h=>hm h.1)]
  refine Spc.enter Tryz.func321 (h:=?_);refine fun w0 hw0=>?_;refine go 10 ?_;refine ab (lfind_no kb mo ti l s hmo hm) (h:=?_);refine go 16 ?_;refine aI rfl ((by simp)) ?_;refine go 10 ?_;exact RQ.post (bb rfl rfl rfl) (aa _) ⟨by rw[hk];rfl,rfl,rfl⟩
theorem lmay_any(kb:Nat)(mo ti:Int)(l:List Lk)(s t:Int)(hmo:mo≠0)(hl:l.length=8):Spc Tryz.prog 241 #[.pointer (some ⟨kb,0,none⟩),.int .i64 s,.int .i64 t] [kI kb mo ti l] [] (Is (.int .i64 (gZ l s t))):=by refine Spc.enter Tryz.func241 (h:=?_);refine fun w0 hw0=>?_;refine go 10 ?_;refine ab (lopen_any kb mo ti l s t hmo hl) (h:=?_);refine go 14 ?_;exact RQ.post (az rfl rfl) (aa _) ⟨rfl,rfl,rfl⟩
def lkFail(mo ti t:Int)(x:Lk):Lk:=if IntKind.i64.wrap (x.f+1)=mo then⟨0,IntKind.i64.wrap (x.t+1),IntKind.i64.wrap (t+ti)⟩ else⟨IntKind.i64.wrap (x.f+1),IntKind.i64.wrap (x.t+1),x.u⟩
def failL(mo ti:Int)(l:List Lk)(s t:Int):List Lk:=if gZ l s t=0 then(match l[s.toNat]? with
 | some x=>l.set s.toNat (lkFail mo ti t x)
 | none=>l) else l
def goodL(l:List Lk)(s:Int):List Lk:=if cE s=true then(match l[s.toNat]? with
 | some x=>l.set s.toNat { x with f:=0 }
 | none=>l) else l
theorem failL_len(mo ti:Int)(l:List Lk)(s t:Int):(failL mo ti l s t).length=l.length:=by
 unfold failL;split
 ·split<;>simp
 ·rfl
theorem goodL_len(l:List Lk)(s:Int):(goodL l s).length=l.length:=by
 unfold goodL;split
 ·split<;>simp
 ·rfl
def KR(kb:Nat)(mo ti:Int)(l:List Lk)(x:Int):Value→List It→List It→Prop:=fun v I' H'=>v=.int .i64 x∧I'=[]∧H'=[kI kb mo ti l]
theorem kmay_zero{l:List Lk}{s t:Int}(h:gZ l s t=0):cE s=true∧eM t=true:=by
 by_cases hc:cE s=true∧eM t=true
 ·exact hc
 ·rw[gZ,if_neg hc] at h;cases h
theorem lfail_any(kb:Nat)(mo ti:Int)(l:List Lk)(s t:Int)(hmo:mo≠0)(hl:l.length=8):Spc Tryz.prog 323 #[.pointer (some ⟨kb,0,none⟩),.int .i64 s,.int .i64 t] [] [kI kb mo ti l] (KR kb mo ti (failL mo ti l s t) (gZ l s t)):=by
 by_cases hk:gZ l s t=0
 ·obtain⟨hm,ht⟩:=kmay_zero hk;obtain⟨n,rfl⟩:∃n:Nat,s=(n:Int):=⟨s.toNat,by simp[cE] at hm;omega⟩;have h8:n<8:=by simp[cE] at hm;omega
  have hx:=List.getElem?_eq_getElem (show n<l.length by omega);have hx0:=hx;generalize l[n]=x at hx hx0;have hlt:n<l.length:=by omega
  have g0:(eu mo ti l)[0+2+n*3+0]?=some (.int .i64 x.f):=k_get hx rfl (by omega);refine Spc.enter Tryz.func323 (h:=?_);refine fun w0 hw0=>?_;refine go 10 ?_;refine ab (lopen_any kb mo ti l (n:Int) t hmo hl) (h:=?_);refine go 9 ?_;rw[hk,if_pos rfl,Int.toNat_natCast];refine go 5 ?_;refine ag rfl ((by simp)) ?_;refine go 11 ?_;have hx1:(l.set n ⟨IntKind.i64.wrap (x.f+1),x.t,x.u⟩)[n]?=some ⟨IntKind.i64.wrap (x.f+1),x.t,x.u⟩:=by simp[hlt]
  have g1:(eu mo ti (l.set n ⟨IntKind.i64.wrap (x.f+1),x.t,x.u⟩))[0+2+n*3+1]?=some (.int .i64 x.t):=k_get hx1 rfl (by omega);have hx2:((l.set n ⟨IntKind.i64.wrap (x.f+1),x.t,x.u⟩).set n ⟨IntKind.i64.wrap (x.f+1),IntKind.i64.wrap (x.t+1),x.u⟩)[n]?=some ⟨IntKind.i64.wrap (x.f+1),IntKind.i64.wrap (x.t+1),x.u⟩:=by simp[hlt]
  have g2:(eu mo ti ((l.set n ⟨IntKind.i64.wrap (x.f+1),x.t,x.u⟩).set n ⟨IntKind.i64.wrap (x.f+1),IntKind.i64.wrap (x.t+1),x.u⟩))[0+2+n*3+0]?=some (.int .i64 (IntKind.i64.wrap (x.f+1))):=k_get hx2 rfl (by omega);have hx3:(((l.set n ⟨IntKind.i64.wrap (x.f+1),x.t,x.u⟩).set n ⟨IntKind.i64.wrap (x.f+1),IntKind.i64.wrap (x.t+1),x.u⟩).set n ⟨0,IntKind.i64.wrap (x.t+1),x.u⟩)[n]?=some ⟨0,IntKind.i64.wrap (x.t+1),x.u⟩:=by simp[hlt]
  refine aj (vs:=[_]) (k_set hx (j:=0) (by decide) (y:=⟨IntKind.i64.wrap (x.f+1),x.t,x.u⟩) rfl) (ho:=rfl) (hl:=by rw[k_len];simp;omega) (h:=?_);refine go 11 ?_;refine aj (vs:=[_]) (k_set hx1 (j:=1) (by decide) (y:=⟨IntKind.i64.wrap (x.f+1),IntKind.i64.wrap (x.t+1),x.u⟩) rfl) (ho:=rfl) (hl:=by rw[k_len];simp;omega) (h:=?_);refine go 4 ?_;refine ae (Sq.of [0,1,2,3,4,5,6,7,8]) [] [] [0,1,2,4,5,6,8] (h:=?_);refine go 11 ?_;refine CW.cond rfl (fun he=>?_) (fun he=>?_)
  ·refine go 11 ?_;have he:IntKind.i64.wrap (x.f+1)=mo:=by simpa using he
   refine aj (vs:=[_]) (k_set hx2 (j:=0) (by decide) (y:=⟨0,IntKind.i64.wrap (x.t+1),x.u⟩) rfl) (ho:=rfl) (hl:=by rw[k_len];simp;omega) (h:=?_);refine go 2 ?_;refine aj (vs:=[_]) (k_set hx3 (j:=2) (by decide) (y:=⟨0,IntKind.i64.wrap (x.t+1),IntKind.i64.wrap (t+ti)⟩) rfl) (ho:=rfl) (hl:=by rw[k_len];simp;omega) (h:=?_);refine go 9 ?_;exact RQ.post (az rfl rfl) (.keep .nil) ⟨rfl,rfl,by rw[failL,if_pos hk,Int.toNat_natCast,hx0];dsimp only;rw[lkFail,if_pos he];simp⟩
  ·refine go 9 ?_;have he: ¬IntKind.i64.wrap (x.f+1)=mo:=by simpa using he
   exact RQ.post (az rfl rfl) (.keep .nil) ⟨rfl,rfl,by rw[failL,if_pos hk,Int.toNat_natCast,hx0];dsimp only;rw[lkFail,if_neg he];simp⟩
 ·have hmo':=hmo;refine Spc.enter Tryz.func323 (h:=?_);refine fun w0 hw0=>?_;refine go 10 ?_;refine ab (lopen_any kb mo ti l s t hmo hl) (h:=?_);refine go 14 ?_;refine aI rfl ((by simp[hk])) ?_;refine go 8 ?_;exact RQ.post (az rfl rfl) (.keep .nil) ⟨rfl,rfl,by rw[failL,if_neg hk]⟩
theorem lgood_any(kb:Nat)(mo ti:Int)(l:List Lk)(s:Int)(hmo:mo≠0)(hl:l.length=8):Spc Tryz.prog 244 #[.pointer (some ⟨kb,0,none⟩),.int .i64 s] [] [kI kb mo ti l] (KR kb mo ti (goodL l s) (if cE s=true then 0 else 2)):=by
 by_cases hm:cE s=true
 ·rw[if_pos hm];obtain⟨n,rfl⟩:∃n:Nat,s=(n:Int):=⟨s.toNat,by simp[cE] at hm;omega⟩;have h8:n<8:=by simp[cE] at hm;omega
  have hx:=List.getElem?_eq_getElem (show n<l.length by omega);generalize l[n]=x at hx;refine Spc.enter Tryz.func244 (h:=?_);refine fun w0 hw0=>?_;refine go 9 ?_;refine ab (lfind_yes kb mo ti l n hmo h8) (h:=?_);refine go 14 ?_;refine aI rfl ((by simp)) ?_;refine go 4 ?_;refine aj (vs:=[_]) (k_set hx (j:=0) (by decide) (y:= { x with f:=0 }) rfl) (ho:=rfl) (hl:=by rw[k_len];simp;omega) (h:=?_);refine go 9 ?_;exact RQ.post (az rfl rfl) (.keep .nil) ⟨rfl,rfl,by rw[goodL,if_pos hm,Int.toNat_natCast,hx]⟩
 ·rw[if_neg hm];refine Spc.enter Tryz.func244 (h:=?_);refine fun w0 hw0=>?_;refine go 9 ?_;refine ab (lfind_no kb mo ti l s hmo hm) (h:=?_);refine go 14 ?_;refine ag rfl ((by simp)) ?_;refine go 9 ?_;exact RQ.post (az rfl rfl) (.keep .nil) ⟨rfl,rfl,by rw[goodL,if_neg hm]⟩
def mkV(p:Nat×Nat):Value:=.agg #[.int .u32 (p.1:Int),.int .u64 (p.2:Int)]
abbrev eG:=Int→Option (Nat×Nat)
def MRel(cm:List (Value×Value))(M:eG):Prop:=∀s,aO (.int .i64 s) cm=(M s).map mkV
abbrev tabI(tb mt:Nat):It:=cel tb [.map (some mt)] 454
abbrev mksI(mt:Nat)(cm:List (Value×Value)):It:=aN mt aF cm
def gtB(p q:Nat×Nat):Bool:=if p.1≠q.1 then decide (p.1>q.1) else decide (p.2>q.2)
def iF(M:eG)(s:Int)(p:Nat×Nat):Int:=if cE s=true then(match M s with
 | some q=>if gtB p q=true then 0 else 170
 | none=>0) else 2
def updM(M:eG)(s:Int)(p:Nat×Nat):eG:=fun s'=>if s'=s then some p else M s'
theorem MRel.set{cm:List (Value×Value)}{M:eG}(h:MRel cm M)(s:Int)(p:Nat×Nat):MRel (cD (.int .i64 s) (mkV p) cm) (updM M s p):=fun s'=>by
 rw[fd,updM]
 by_cases e:s'=s
 ·subst e;rw[if_pos rfl,if_pos rfl];rfl
 ·rw[if_neg e,if_neg (by simpa using e)];exact h s'
theorem ris_any(tb mt:Nat):Spc Tryz.prog 272 #[.pointer (some ⟨tb,0,none⟩)] [tabI tb mt] [] (Is (.bool true)):=by
 refine Spc.enter Tryz.func272 (h:=?_);refine fun w0 hw0=>?_;refine go 8 ?_;refine bj (hr:=dG KU329.h _) (h:=go 1 ?_);apply aL (d:=5) (dp:=11) (l':=(Sq.of [9])) rfl (sK [2] rfl)
 ·intro hb3 K3;refine go 4 ?_;refine bj (hr:=neq_map KU119.h _) (h:=go 1 ?_);exact K3 _ (.cons rfl (sK [2] rfl))
 ·intro hb3 K3;refine go 6 ?_;exact K3 _ (.cons rfl (sK [2] rfl))
 refine go 4 ?_;exact RQ.post (az rfl rfl) (aa _) ⟨rfl,rfl,rfl⟩
theorem rpmay_any(tb mt:Nat)(s:Int):Spc Tryz.prog 343 #[.pointer (some ⟨tb,0,none⟩),.int .i64 s] [tabI tb mt] [] (Is (.int .i64 (if cE s=true then 0 else 2))):=by
 refine Spc.enter Tryz.func343 (h:=?_);refine fun w0 hw0=>?_;refine go 10 ?_;refine ab (ris_any tb mt) (h:=?_);refine go 4 ?_;refine ag rfl ((by simp)) ?_;refine go 5 ?_;apply au (d:=12) (dp:=15) (l':=(Sq.of [6])) rfl (sK [4] rfl)
 ·intro hb3 K3;refine go 3 ?_;exact K3 _ (.cons rfl (sK [4] rfl))
 ·intro hb3 K3;refine go 3 ?_;exact K3 _ (.cons rfl (sK [4] rfl))
 refine go 3 ?_;refine CW.cond rfl (fun h=>?_) (fun h=>?_)
 ·refine go 8 ?_;exact RQ.post (az rfl rfl) (aa _) ⟨by rw[if_neg (by simp[cE];simp at h;omega)],rfl,rfl⟩
 ·refine go 9 ?_;exact RQ.post (az rfl rfl) (aa _) ⟨by rw[if_pos (by simp[cE];simp at h;omega)],rfl,rfl⟩
theorem ij(p q:Nat×Nat):Spc Tryz.prog 91 #[mkV p,mkV q] [] [] (Is (.bool (gtB p q))):=by
 obtain⟨a,b⟩:=p;obtain⟨c,d⟩:=q;refine Spc.enter Tryz.func91 (h:=?_);refine fun w0 hw0=>?_;refine go 17 ?_;intro b1 b2;refine CW.cond rfl (fun h=>?_) (fun h=>?_)
 ·refine go 12 ?_;have h:a≠c:=by simp at h;omega
  exact RQ.post (az rfl rfl) (aa _) ⟨by simp[gtB,h],rfl,rfl⟩
 ·refine go 13 ?_;have h:a=c:=by simp at h;omega
  exact RQ.post (az rfl rfl) (aa _) ⟨by simp[gtB,h],rfl,rfl⟩
theorem rMay_any(tb mt:Nat)(cm:List (Value×Value))(M:eG)(s:Int)(p:Nat×Nat)(hM:MRel cm M):Spc Tryz.prog 324 #[.pointer (some ⟨tb,0,none⟩),.int .i64 s,mkV p] [tabI tb mt,mksI mt cm] [] (Is (.int .i64 (iF M s p))):=by
 obtain⟨a,b⟩:=p;by_cases hm:cE s=true
 ·have hm0:cE s=true:=hm;refine Spc.enter Tryz.func324 (h:=?_);refine fun w0 hw0=>?_;refine go 11 ?_;intro b1;refine ab (rpmay_any tb mt s) (h:=?_);refine go 9 ?_;refine ag rfl ((by rw[if_pos hm0];rfl)) ?_;refine go 10 ?_;refine ga keyI KU119.h KZ121.h rfl rfl rfl rfl rfl ⟨s,rfl⟩ (eS mQ) ?_;rw[show aO (.int .i64 s) cm=_ from hM s]
  cases hq:M s with
  | none=>refine go 12 ?_;intro b2;refine av (d:=26) (v':=.bool false) rfl (rfl) ?_;refine go 7 ?_;refine ag (h:=go 8 ?_);exact RQ.post (az rfl rfl) (aa _) ⟨by rw[iF,if_pos hm0,hq],rfl,rfl⟩
  | some q=>
   obtain⟨c,d⟩:=q;refine go 12 ?_;intro b2;apply aL (d:=26) (dp:=31) (l':=(Sq.of [])) rfl .nil
   ·intro hb2 K2;refine ak (vs:=[_,_]) KA121.h KS121.h rfl rfl rfl rfl (by first|(apply Rds.cel;(solve|(repeat (first|exact List.Mem.head _|apply List.Mem.tail)));exact am ⟨rfl,rfl,trivial⟩)|(apply Rds.celI;(solve|(repeat (first|exact List.Mem.head _|apply List.Mem.tail)));exact am ⟨rfl,rfl,trivial⟩)|assumption|(apply aU;assumption)) ?_;refine ak (vs:=[_,_]) KA121.h KS121.h rfl rfl rfl rfl (by first|(apply Rds.cel;(solve|(repeat (first|exact List.Mem.head _|apply List.Mem.tail)));exact am ⟨rfl,rfl,trivial⟩)|(apply Rds.celI;(solve|(repeat (first|exact List.Mem.head _|apply List.Mem.tail)));exact am ⟨rfl,rfl,trivial⟩)|assumption|(apply aU;assumption)) ?_;refine ab (ij (a,b) (c,d)) (h:=?_);refine go 2 ?_;exact K2 _ (.cons rfl .nil)
   ·intro hb2 K2;refine go 5 ?_;exact K2 _ (.cons rfl .nil)
   refine go 2 ?_;refine CW.cond rfl (fun hg=>?_) (fun hg=>?_)
   ·refine go 7 ?_;have hg: ¬gtB (a,b) (c,d)=true:=by simpa using hg
    exact RQ.post (az rfl rfl) (aa _) ⟨by rw[iF,if_pos hm0,hq];dsimp only;rw[if_neg hg],rfl,rfl⟩
   ·refine go 8 ?_;have hg:gtB (a,b) (c,d)=true:=by simpa using hg
    exact RQ.post (az rfl rfl) (aa _) ⟨by rw[iF,if_pos hm0,hq];dsimp only;rw[if_pos hg],rfl,rfl⟩
 ·have hm0: ¬cE s=true:=hm;refine Spc.enter Tryz.func324 (h:=?_);refine fun w0 hw0=>?_;refine go 11 ?_;intro b1;refine ab (rpmay_any tb mt s) (h:=?_);refine go 9 ?_;refine aI rfl ((by rw[if_neg hm0];rfl)) ?_;refine go 8 ?_;exact RQ.post (az rfl rfl) (aa _) ⟨by rw[if_neg hm0,iF,if_neg hm0],rfl,rfl⟩
def gL(M:eG)(s:Int)(p:Nat×Nat):eG:=if iF M s p=0 then updM M s p else M
def TakeR(tb mt:Nat)(M:eG)(x:Int):Value→List It→List It→Prop:=fun v I' H'=>v=.int .i64 x∧I'=[]∧∃cm,MRel cm M∧H'=[tabI tb mt,mksI mt cm]
theorem ttake_any(tb mt:Nat)(cm:List (Value×Value))(M:eG)(s:Int)(p:Nat×Nat)(hM:MRel cm M):Spc Tryz.prog 243 #[.pointer (some ⟨tb,0,none⟩),.int .i64 s,mkV p] [] [tabI tb mt,mksI mt cm] (TakeR tb mt (gL M s p) (iF M s p)):=by
 refine Spc.enter Tryz.func243 (h:=?_);refine fun w0 hw0=>?_;refine go 10 ?_;intro b1;refine ak (vs:=[_,_]) KA121.h KS121.h rfl rfl rfl rfl (by first|(apply Rds.cel;(solve|(repeat (first|exact List.Mem.head _|apply List.Mem.tail)));exact am ⟨rfl,rfl,trivial⟩)|(apply Rds.celI;(solve|(repeat (first|exact List.Mem.head _|apply List.Mem.tail)));exact am ⟨rfl,rfl,trivial⟩)|assumption|(apply aU;assumption)) ?_;refine ab (rMay_any tb mt cm M s p hM) (h:=?_);refine go 10 ?_;refine CW.cond rfl (fun h=>?_) (fun h=>?_)
 ·refine ae (Sq.of [0,1,2,3,4,5,6]) [6] [6] [0,1,2,4] (h:=?_);refine go 5 ?_;refine ak (vs:=[_,_]) KA121.h KS121.h rfl rfl rfl rfl (by first|(apply Rds.cel;(solve|(repeat (first|exact List.Mem.head _|apply List.Mem.tail)));exact am ⟨rfl,rfl,trivial⟩)|(apply Rds.celI;(solve|(repeat (first|exact List.Mem.head _|apply List.Mem.tail)));exact am ⟨rfl,rfl,trivial⟩)|assumption|(apply aU;assumption)) ?_;have h:iF M s p=0:=by simpa using h
  refine RL.mapUpdate keyI (ho:=rfl) (hk:=⟨s,rfl⟩) (hup:=uE) (h:=?_);refine go 9 ?_;exact RQ.post (az rfl rfl) (.drop (.keep (.keep .nil))) ⟨rfl,rfl,_,by rw[gL,if_pos h];exact hM.set s p,rfl⟩
 ·refine go 9 ?_;have h: ¬iF M s p=0:=by simpa using h
  exact RQ.post (az rfl rfl) (.drop (.keep (.keep .nil))) ⟨rfl,rfl,cm,by rw[gL,if_neg h];exact hM,rfl⟩
def rt(a b:Int):Value:=.agg #[.int .i64 a,.int .i64 b]
def goodR(v:Value):Prop:=∃a b:Int,v=rt a b
theorem rt_inj{a b c d:Int}:rt a b=rt c d↔a=c∧b=d:=by simp[rt]
theorem same_rt(a b c d:Int):same (rt a b) (rt c d)=(a==c&&b==d):=by rw[Bool.eq_iff_iff,same_iff,rt_inj];simp
theorem kkeyR:KeyT Tryz.prog 430 goodR where
 desc:=⟨_,KU430.h,fun a b _ _=>.inl (by cases a<;>cases b<;>rfl)⟩
 eq:=by
  rintro _ _ ⟨a,b,rfl⟩ ⟨c,d,rfl⟩ w
  rw[same_rt]
  simp[rt,Op.equal,Op.maxDepth,run_equalIn_struct,Program.fieldsOf,Op.eqFields,Go.part,go_sem]
  by_cases h1:a=c<;>by_cases h2:b=d<;>simp[h1,h2]
 chk:=by
  rintro _ ⟨a,b,rfl⟩ e w
  have:∀n,(Instr.checkKey e (n+2) 430 (.agg #[.int .i64 a,.int .i64 b])).run Tryz.prog w=.ok () w:=by
   intro n
   simp[Instr.checkKey,Go.part,go_sem]
  exact this 9998
 bits:=by
  rintro _ ⟨a,b,rfl⟩
  simp[rt,Instr.sameBits]
theorem keyE':KeyT Tryz.prog 41 aF where
 desc:=⟨_,KU41.h,fun a b ha hb=>by
  obtain⟨m,rfl⟩:=ha;obtain⟨n,rfl⟩:=hb
  by_cases h:m=n<;>simp[Instr.sameNow,same,h]⟩
 eq:=by
  rintro _ _ ⟨a,rfl⟩ ⟨c,rfl⟩ w
  by_cases h:a=c<;>simp[Op.equal,Op.maxDepth,same,h,Go.part,go_sem]
 chk:=by
  rintro _ ⟨a,rfl⟩ e w
  have:∀n,(Instr.checkKey e (n+2) 41 (.int .i64 a)).run Tryz.prog w=.ok () w:=by
   intro n
   simp[Instr.checkKey,Go.part,go_sem]
  exact this 9998
 bits:=by
  rintro _ ⟨a,rfl⟩
  simp[Instr.sameBits]
structure GB where
 gb:Nat
 r:Nat
 m1:Nat
 m2:Nat
 kb:Nat
 tb:Nat
 mt:Nat
 my:Nat
 md:Nat
 mo:Int
 ti:Int
structure GSt where
 T:List One
 c:List (Value×Value)
 l:List Lk
 M:eG
 cm:List (Value×Value)
 Y:Int→Int→Bool
 cy:List (Value×Value)
 D:Int→Int
 ct:List (Value×Value)
def YRel(cy:List (Value×Value))(Y:Int→Int→Bool):Prop:=∀a b,aO (rt a b) cy=if Y a b=true then some (.bool true) else none
def DRel(ct:List (Value×Value))(D:Int→Int):Prop:=∀e,(aO (.int .i64 e) ct).getD (.int .i64 0)=.int .i64 (D e)
structure GOk(g:GSt):Prop where
 t:TOk g.T
 k:KOk g.T g.c
 l:g.l.length=8
 m:MRel g.cm g.M
 y:YRel g.cy g.Y
 d:DRel g.ct g.D
abbrev gCel(B:GB):It:=cel B.gb [.pointer (some ⟨B.r,0,none⟩),.pointer (some ⟨B.kb,0,none⟩),.pointer (some ⟨B.tb,0,none⟩),.map (some B.my),.map (some B.md)] 332
abbrev GI(B:GB)(g:GSt):List It:=[gCel B,allI (eF B.r B.m1 B.m2 g.T g.c),kI B.kb B.mo B.ti g.l,tabI B.tb B.mt,mksI B.mt g.cm,aN B.my goodR g.cy,aN B.md aF g.ct]
theorem YRel.set{cy:List (Value×Value)}{Y:Int→Int→Bool}(h:YRel cy Y)(a b:Int):YRel (cD (rt a b) (.bool true) cy) (fun a' b'=>(a'==a&&b'==b)||Y a' b'):=fun a' b'=>by
 rw[fd,rt_inj,h a' b']
 by_cases e:a'=a∧b'=b
 ·rw[if_pos e];simp[e.1,e.2]
 ·rw[if_neg e]
  have:(a'==a&&b'==b)=false:=by
   cases hh:(a'==a&&b'==b)
   ·rfl
   ·simp at hh;exact absurd hh e
  show _=if (a'==a&&b'==b||Y a' b')=true then _ else _
  rw[this];simp
theorem DRel.set{ct:List (Value×Value)}{D:Int→Int}(h:DRel ct D)(e x:Int):DRel (cD (.int .i64 e) (.int .i64 x) ct) (fun e'=>if e'=e then x else D e'):=fun e'=>by
 rw[fd]
 by_cases he:e'=e
 ·subst he;simp
 ·rw[if_neg (by simpa using he)];dsimp only;rw[if_neg he];exact h e'
theorem gis_any(B:GB):Spc Tryz.prog 166 #[.pointer (some ⟨B.gb,0,none⟩)] [gCel B] [] (Is (.bool true)):=by
 refine Spc.enter Tryz.func166 (h:=?_);refine fun w0 hw0=>?_;refine go 8 ?_;refine bj (hr:=dG KU115.h _) (h:=go 1 ?_);apply aL (d:=5) (dp:=11) (l':=(Sq.of [9])) rfl (sK [2] rfl)
 ·intro hb3 K3;refine go 4 ?_;refine bj (hr:=neq_map KU330.h _) (h:=go 1 ?_);exact K3 _ (.cons rfl (sK [2] rfl))
 ·intro hb3 K3;refine go 6 ?_;exact K3 _ (.cons rfl (sK [2] rfl))
 refine go 4 ?_;exact RQ.post (az rfl rfl) (aa _) ⟨rfl,rfl,rfl⟩
theorem lnew_yes(mo ti:Int)(h1:1≤mo)(h2:mo≤1000)(h3:1≤ti)(h4:ti≤65535):Spc Tryz.prog 97 #[.int .i64 mo,.int .i64 ti] [] [] (fun v I' H'=>∃kb,v=.tuple #[.pointer (some ⟨kb,0,none⟩),.int .i64 0]∧I'=[]∧H'=[kI kb mo ti (List.replicate 8 ⟨0,0,0⟩)]):=by
 refine Spc.enter Tryz.func97 (h:=?_);refine fun w0 hw0=>?_;refine go 12 ?_;apply au (d:=8) (dp:=11) (l':=(Sq.of [6,7,8,9,10,11,12,13])) rfl (sK [0,1,4,5] rfl)
 ·intro hb3 K3;refine go 3 ?_;exact K3 _ (.cons rfl (sK [0,1,4,5] rfl))
 ·intro hb3 K3;refine go 3 ?_;exact K3 _ (.cons rfl (sK [0,1,4,5] rfl))
 refine go 1 ?_;apply au (d:=12) (dp:=15) (l':=(Sq.of [10,11,12,13])) rfl (sK [0,1,4,5] rfl)
 ·intro hb7 K7;refine go 3 ?_;exact K7 _ (.cons rfl (sK [0,1,4,5] rfl))
 ·intro hb7 K7;refine go 3 ?_;exact K7 _ (.cons rfl (sK [0,1,4,5] rfl))
 refine go 1 ?_;apply au (d:=16) (dp:=19) (l':=(Sq.of [])) rfl (sK [0,1,4,5] rfl)
 ·intro hb11 K11;refine go 3 ?_;exact K11 _ (.cons rfl (sK [0,1,4,5] rfl))
 ·intro hb11 K11;refine go 3 ?_;exact K11 _ (.cons rfl (sK [0,1,4,5] rfl))
 refine go 2 ?_;refine ag rfl ((by simp;omega)) ?_;refine go 6 ?_;refine ay (eu mo ti (List.replicate 8 ⟨0,0,0⟩)) (ho:=rfl) (h:=?_);refine RL.box (cs:=eu mo ti (List.replicate 8 ⟨0,0,0⟩)) rfl rfl rfl rfl rfl rfl (fun kb=>?_);refine go 5 ?_;exact RQ.post (bb rfl rfl rfl) (.keep .nil) ⟨kb,rfl,rfl,rfl⟩
theorem rnew_any:Spc Tryz.prog 183 #[] [] [] (fun v I' H'=>∃tb mt,v=.pointer (some ⟨tb,0,none⟩)∧I'=[]∧H'=[tabI tb mt,mksI mt []]):=by refine Spc.enter Tryz.func183 (h:=?_);refine fun w0 hw0=>?_;refine go 7 ?_;refine RL.makeMap (good:=aF) (h:=?_);refine fun mt=>?_;refine go 6 ?_;intro b1;exact RQ.post (az rfl rfl) (.keep (.keep .nil)) ⟨b1,mt,rfl,rfl,rfl⟩
def g0:GSt:=⟨[],[],List.replicate 8 ⟨0,0,0⟩,fun _=>none,[],fun _ _=>false,[],fun _=>0,[]⟩
theorem g0_ok:GOk g0:=⟨tok_nil,kok_nil,rfl,fun _=>rfl,fun _ _=>rfl,fun _=>rfl⟩
theorem gnew_yes(mo ti:Int)(h1:1≤mo)(h2:mo≤1000)(h3:1≤ti)(h4:ti≤65535):Spc Tryz.prog 113 #[.int .i64 mo,.int .i64 ti] [] [] (fun v I' H'=>∃B:GB,B.mo=mo∧B.ti=ti∧v=.tuple #[.pointer (some ⟨B.gb,0,none⟩),.int .i64 0]∧I'=[]∧H'=GI B g0):=by refine Spc.enter Tryz.func113 (h:=?_);refine fun w0 hw0=>?_;refine go 10 ?_;refine ax (lnew_yes mo ti h1 h2 h3 h4) (hb:=.inl rfl) (h:=?_);rintro _ _ _ ⟨kb,rfl,rfl,rfl⟩;refine go 14 ?_;refine ag rfl ((by simp)) ?_;refine go 4 ?_;refine ax (new_keys) (hb:=.inl rfl) (h:=?_);rintro _ _ _ ⟨r,m1,m2,rfl,rfl,rfl⟩;refine go 1 ?_;refine ax (rnew_any) (hb:=.inl rfl) (h:=?_);rintro _ _ _ ⟨tb,mt,rfl,rfl,rfl⟩;refine RL.makeMap (good:=goodR) (h:=?_);refine fun my=>?_;refine RL.makeMap (good:=aF) (h:=?_);refine fun md=>?_;refine go 8 ?_;intro b1;refine RQ.rea (fun _ h=>h) (H':=GI ⟨b1,r,m1,m2,kb,tb,mt,my,md,mo,ti⟩ g0) rE ?_;exact RQ.post (bb rfl rfl rfl) (.keep (.keep (.keep (.keep (.keep (.keep (.keep .nil))))))) ⟨⟨b1,r,m1,m2,kb,tb,mt,my,md,mo,ti⟩,rfl,rfl,rfl,rfl,rfl⟩
def Fr.sign(f:Fr)(k:List B8):Fr:= { f with tag:=d7 (d8 k gK f.ep) f.signed }
theorem sign_seg(f:Fr)(sl:Value):f.cells sl=[.int .i64 f.kd,.int .i64 f.sr,.int .u32 (f.ep:Int),.int .u64 (f.ct:Int),sl]++(bytes f.tag++[]):=by simp[Fr.cells]
theorem Fr.sign_ok{f:Fr}(h:f.Ok)(k:List B8):(f.sign k).Ok:=⟨h.ep,h.ct,dS _ _⟩
theorem rsign_any(f:Fr)(k:List B8)(p:Option Addr)(c n:Nat)(hk:k.length=32)(hf:f.Ok)(hn:f.b.length=n)(hb:n≤900000):Spc Tryz.prog 79 #[.agg (bytes k).toArray,.agg (f.cells (.slice p n c)).toArray] [sls p 1 n (bytes f.b)] [] (Is (.agg ((f.sign k).cells (.slice p n c)).toArray)):=by have hl:=dT hf.tag (.slice p n c);have hl2:=dT (f.sign_ok hf k).tag (.slice p n c);have hsl:=er f;refine Spc.enter Tryz.func79 (h:=?_);refine fun w0 hw0=>?_;refine go 8 ?_;intro b1 b2 b3;refine ae (Sq.of [0,1,2,3,4,5,6,7,8,9]) [6,9] [9] [1,3,8] (h:=?_);refine go 4 ?_;refine ab (rderive_w k hk gK (by decide) f.ep hf.ep) (h:=?_);refine go 1 ?_;refine ax (rsigned_any f p c n hf hn hb) (hb:=.inl rfl) (h:=?_);rintro _ _ _ ⟨ob1,cap1,rfl,rfl,rfl,ho1⟩;refine ar (rtag_any (d8 k gK f.ep) (derive_len _ _ _) (ob1.map fun b=>⟨b,0,none⟩) (14+n) cap1 f.signed (by omega) (by omega)) Tryz.call150 rfl rfl rfl rfl (Lend.own mQ .nil) ?_;refine go 1 ?_;refine eX (cs:=f.cells (.slice p n c)) (cs':=(f.sign k).cells (.slice p n c)) (vs:=bytes (d7 (d8 k gK f.ep) f.signed)) [.int .i64 f.kd,.int .i64 f.sr,.int .u32 (f.ep:Int),.int .u64 (f.ct:Int),.slice p n c] (bytes f.tag) [] KS149.h rfl rfl rfl rfl rfl rfl rfl (bC fh _) (sign_seg f _) (by rw[sign_seg];rfl) rfl (by rw[List.length_map,hf.tag]) (by rw[List.length_map,dS]) uE ?_;refine go 5 ?_;refine an (ho:=rfl) (h1:=ig _ rfl) (hv:=hl2) (h:=?_);refine go 3 ?_;exact RQ.post (cU rfl rfl KA151.h KS151.h mQ hl2) (aa _) ⟨rfl,rfl,rfl⟩
def tagOk(g:GSt)(f:Fr)(t:Int):Bool:=f.tag==d7 (jd g.T f.sr f.ep t).1 f.signed
def tagE(g:GSt)(f:Fr)(t:Int):Int:=if (jd g.T f.sr f.ep t).2=0 then(if tagOk g f t=true then 0 else 190) else(jd g.T f.sr f.ep t).2
def tagG(B:GB)(g:GSt)(f:Fr)(t:Int):GSt:=if (jd g.T f.sr f.ep t).2=0 then(if tagOk g f t=true then g else { g with l:=failL B.mo B.ti g.l f.sr t }) else g
def GR(B:GB)(g:GSt)(x:Int):Value→List It→List It→Prop:=fun v I' H'=>v=.int .i64 x∧I'=[]∧H'=GI B g
theorem joined_one(p:Option Addr)(c:Nat)(m:List B8):aM [⟨p,c,m⟩]=m:=by simp[aM]
theorem gtag_any(B:GB)(g:GSt)(f:Fr)(p:Option Addr)(c n:Nat)(t:Int)(hmo:B.mo≠0)(hg:GOk g)(hf:f.Ok)(hn:f.b.length=n)(hb:n≤900000):Spc Tryz.prog 242 #[.pointer (some ⟨B.gb,0,none⟩),.int .i64 t,.agg (f.cells (.slice p n c)).toArray] [sls p 1 n (bytes f.b)] (GI B g) (GR B (tagG B g f t) (tagE g f t)):=by
 have hl:=dT hf.tag (.slice p n c);have hk:=keyM_len g.T f.sr f.ep t;have hsl:=er f;refine Spc.enter Tryz.func242 (h:=?_);refine fun w0 hw0=>?_;refine go 7 ?_;intro b1;refine ae (Sq.of [0,1,2,3,4,5,6,7,8,9,10,11,12,13,14,15]) [13,14] [14] [0,1,2,4,6,8,10,11,12,15] (h:=?_);refine go 9 ?_;refine ab (key_any B.r B.m1 B.m2 g.T g.c f.sr f.ep t hg.t hg.k hf.ep) (h:=?_);refine go 3 ?_;refine RL.alloc (cs:=List.replicate 32 (U8 0#8)) (ho:=rfl) (h:=?_);intro b2;refine go 11 ?_;refine CW.cond rfl (fun h=>?_) (fun h=>?_)
 ·refine go 8 ?_;have h: ¬(jd g.T f.sr f.ep t).2=0:=by simpa using h
  have e:tagG B g f t=g:=by rw[tagG,if_neg h]
  rw[e];refine RQ.rea (fun _ h=>h) (H':=GI B (g)) rE ?_;exact RQ.post (az rfl rfl) (.keep (.keep (.keep (.keep (.keep (.keep (.keep .nil))))))) ⟨by rw[tagE,if_neg h];rfl,rfl,rfl⟩
 ·have h:(jd g.T f.sr f.ep t).2=0:=by simpa using h
  refine go 4 ?_;refine ae (Sq.of [0,1,2,3,4,5,6,7]) [4,5] [] [1,7] (h:=?_);refine go 2 ?_;refine RL.loadA KA149.h KS149.h rfl rfl rfl rfl (vs:=bytes f.tag) (Rds.cel mQ (fr_tag f _)) (by rw[List.length_map,hf.tag]) ?_;refine go 1 ?_;refine ax (signed_any f p c n hf hn hb) (hb:=.inl rfl) (h:=?_);rintro _ _ _ ⟨ob1,cap1,rfl,rfl,rfl,ho1⟩;refine RL.buildSlice [_] (ho:=rfl) (h:=?_);intro b3;refine ar (right_any (jd g.T f.sr f.ep t).1 hk f.tag hf.tag (some ⟨b3,0,none⟩) 1 1 [⟨ob1.map fun b=>⟨b,0,none⟩,cap1,f.signed⟩] rfl (by decide) (by simp[aM];omega)) (hl:=fz mQ rfl rfl (Lend.own mQ .nil)) (h:=?_);refine go 3 ?_;rw[joined_one];refine CW.cond rfl (fun hr=>?_) (fun hr=>?_)
  ·refine go 1 ?_;refine ae (Sq.of [0,1,2,3,4,5,6,7]) [7] [7] [0,1,2,4,6] (h:=?_);refine go 7 ?_;refine ax (lfail_any B.kb B.mo B.ti g.l f.sr t hmo hg.l) (hb:=.inr rfl) (h:=?_);have hr: ¬tagOk g f t=true:=by simpa[tagOk] using hr
   rintro _ _ _ ⟨rfl,rfl,rfl⟩;refine go 9 ?_;have e:tagG B g f t= { g with l:=failL B.mo B.ti g.l f.sr t }:=by rw[tagG,if_pos h,if_neg hr]
   rw[e];refine RQ.rea (fun _ h=>h) (H':=GI B ({ g with l:=failL B.mo B.ti g.l f.sr t })) rE ?_;exact RQ.post (az rfl rfl) (.keep (.keep (.keep (.keep (.keep (.keep (.keep .nil))))))) ⟨by rw[tagE,if_pos h,if_neg hr],rfl,rfl⟩
  ·refine go 9 ?_;have hr:tagOk g f t=true:=by simpa[tagOk] using hr
   have e:tagG B g f t=g:=by rw[tagG,if_pos h,if_pos hr]
   rw[e];refine RQ.rea (fun _ h=>h) (H':=GI B (g)) rE ?_;exact RQ.post (az rfl rfl) (.keep (.keep (.keep (.keep (.keep (.keep (.keep .nil))))))) ⟨by rw[tagE,if_pos h,if_pos hr,h];rfl,rfl,rfl⟩
theorem tag_zero{B:GB}{g:GSt}{f:Fr}{t:Int}(h:tagE g f t=0):tagG B g f t=g:=by
 unfold tagE at h;by_cases h1:(jd g.T f.sr f.ep t).2=0
 ·rw[if_pos h1] at h;by_cases h2:tagOk g f t=true
  ·rw[tagG,if_pos h1,if_pos h2]
  ·rw[if_neg h2] at h;cases h
 ·rw[if_neg h1] at h;exact absurd h h1
theorem tagG_l(B:GB)(g:GSt)(f:Fr)(t:Int):tagG B g f t= { g with l:=(tagG B g f t).l }:=by
 unfold tagG;split
 ·split<;>rfl
 ·rfl
theorem tagG_len(B:GB)(g:GSt)(f:Fr)(t:Int):(tagG B g f t).l.length=g.l.length:=by
 unfold tagG;split
 ·split
  ·rfl
  ·exact failL_len _ _ _ _ _
 ·rfl
def fmark(f:Fr):Nat×Nat:=(f.ep,f.ct)
def di(g:GSt)(f:Fr)(t:Int):Int:=if eM t=true then(if g.Y f.sr f.kd=true then(if gZ g.l f.sr t=0 then(if tagE g f t=0 then iF g.M f.sr (fmark f) else tagE g f t) else gZ g.l f.sr t) else 191) else 2
def lookB(g:GSt)(f:Fr)(t:Int):Bool:=eM t&&g.Y f.sr f.kd&&decide (gZ g.l f.sr t=0)
def eH(B:GB)(g:GSt)(f:Fr)(t:Int):List Lk:=if lookB g f t=true then(if tagE g f t=0 then(if iF g.M f.sr (fmark f)=0 then goodL g.l f.sr else g.l) else(tagG B g f t).l) else g.l
def ew(g:GSt)(f:Fr)(t:Int):eG:=if lookB g f t=true then(if tagE g f t=0 then gL g.M f.sr (fmark f) else g.M) else g.M
theorem lookL_len(B:GB)(g:GSt)(f:Fr)(t:Int):(eH B g f t).length=g.l.length:=by
 unfold eH;split
 ·split
  ·split
   ·exact goodL_len _ _
   ·rfl
  ·exact tagG_len _ _ _ _
 ·rfl
def LookR(B:GB)(g:GSt)(f:Fr)(t:Int):Value→List It→List It→Prop:=fun v I' H'=>v=.int .i64 (di g f t)∧I'=[]∧∃cm,MRel cm (ew g f t)∧H'=GI B { g with l:=eH B g f t,M:=ew g f t,cm:=cm }
theorem glook_any(B:GB)(g:GSt)(f:Fr)(p:Option Addr)(c n:Nat)(t:Int)(hmo:B.mo≠0)(hg:GOk g)(hf:f.Ok)(hn:f.b.length=n)(hb:n≤900000):Spc Tryz.prog 167 #[.pointer (some ⟨B.gb,0,none⟩),.int .i64 t,.agg (f.cells (.slice p n c)).toArray] [sls p 1 n (bytes f.b)] (GI B g) (LookR B g f t):=by
 have hl:=dT hf.tag (.slice p n c);refine Spc.enter Tryz.func167 (h:=?_);refine fun w0 hw0=>?_;refine go 12 ?_;intro b1;apply au (d:=12) (dp:=15) (l':=(Sq.of [])) rfl (sK [0,1,5,6] rfl)
 ·intro hb3 K3;refine go 3 ?_;exact K3 _ (.cons rfl (sK [0,1,5,6] rfl))
 ·intro hb3 K3;refine go 3 ?_;exact K3 _ (.cons rfl (sK [0,1,5,6] rfl))
 refine go 2 ?_;refine CW.cond rfl (fun ht=>?_) (fun ht=>?_)
 ·refine go 7 ?_;have ht: ¬eM t=true:=by simp at ht;simp[eM];omega
  have hB: ¬lookB g f t=true:=by simp[lookB,ht]
  have hM:ew g f t=g.M:=by rw[ew,if_neg hB]
  have hL:eH B g f t=g.l:=by rw[eH,if_neg hB]
  refine RQ.rea (fun _ h=>h) (H':=GI B (g)) rE ?_;exact RQ.post (az rfl rfl) (.keep (.keep (.keep (.keep (.keep (.keep (.keep .nil))))))) ⟨by rw[di,if_neg ht],rfl,g.cm,by rw[hM];exact hg.m,by rw[hL,hM]⟩
 ·refine go 4 ?_;refine ae (Sq.of [0,1,2,3,4,5,6,7,8,9,10]) [] [] [0,1,2,4,6,8,10] (h:=?_);refine go 9 ?_;have ht:eM t=true:=by simp at ht;simp[eM];omega
  refine RL.lookup kkeyR KU330.h KZ4.h rfl rfl rfl rfl rfl ⟨f.sr,f.kd,rfl⟩ (MapAt.own mQ) ?_;rw[show aO (.agg #[.int .i64 f.sr,.int .i64 f.kd]) g.cy=_ from hg.y f.sr f.kd]
  cases hY:g.Y f.sr f.kd with
  | false=>
   refine go 11 ?_;have hB: ¬lookB g f t=true:=by simp[lookB,hY]
   have hM:ew g f t=g.M:=by rw[ew,if_neg hB]
   have hL:eH B g f t=g.l:=by rw[eH,if_neg hB]
   refine RQ.rea (fun _ h=>h) (H':=GI B (g)) rE ?_;exact RQ.post (az rfl rfl) (.keep (.keep (.keep (.keep (.keep (.keep (.keep .nil))))))) ⟨by rw[di,if_pos ht,hY];rfl,rfl,g.cm,by rw[hM];exact hg.m,by rw[hL,hM]⟩
  | true=>
   refine go 8 ?_;refine ae (Sq.of [0,1,2,3,4,5,6,7,8]) [] [] [0,1,2,4,6,8] (h:=?_);refine go 7 ?_;refine ab (lmay_any B.kb B.mo B.ti g.l f.sr t hmo hg.l) (h:=?_);refine go 9 ?_;refine CW.cond rfl (fun hk=>?_) (fun hk=>?_)
   ·refine go 8 ?_;have hk: ¬gZ g.l f.sr t=0:=by simpa using hk
    have hB: ¬lookB g f t=true:=by simp[lookB,hk]
    have hM:ew g f t=g.M:=by rw[ew,if_neg hB]
    have hL:eH B g f t=g.l:=by rw[eH,if_neg hB]
    refine RQ.rea (fun _ h=>h) (H':=GI B (g)) rE ?_;exact RQ.post (az rfl rfl) (.keep (.keep (.keep (.keep (.keep (.keep (.keep .nil))))))) ⟨by rw[di,if_pos ht,if_pos hY,if_neg hk],rfl,g.cm,by rw[hM];exact hg.m,by rw[hL,hM]⟩
   ·refine go 8 ?_;refine ax (gtag_any B g f p c n t hmo hg hf hn hb) (hb:=.inr rfl) (h:=?_);have hk:gZ g.l f.sr t=0:=by simpa using hk
    have hB:lookB g f t=true:=by simp[lookB,ht,hY,hk]
    rintro _ _ _ ⟨rfl,rfl,rfl⟩;refine go 9 ?_;refine CW.cond rfl (fun he=>?_) (fun he=>?_)
    ·refine go 8 ?_;have he: ¬tagE g f t=0:=by simpa using he
     have hM:ew g f t=g.M:=by rw[ew,if_pos hB,if_neg he]
     have hL:eH B g f t=(tagG B g f t).l:=by rw[eH,if_pos hB,if_neg he]
     refine RQ.rea (fun _ h=>h) (H':=GI B (tagG B g f t)) rE ?_;exact RQ.post (az rfl rfl) (.keep (.keep (.keep (.keep (.keep (.keep (.keep .nil))))))) ⟨by rw[di,if_pos ht,if_pos hY,if_pos hk,if_neg he],rfl,g.cm,by rw[hM];exact hg.m,by rw[hL,hM,tagG_l]⟩
    ·have he:tagE g f t=0:=by simpa using he
     rw[tag_zero he];have hM:ew g f t=gL g.M f.sr (fmark f):=by rw[ew,if_pos hB,if_pos he]
     refine go 4 ?_;refine ae (Sq.of [0,1,2,3,4,5,6,7,8,9,10,11,12]) [11] [11] [0,1,2,4,6,8,10,12] (h:=?_);refine go 11 ?_;refine ax (ttake_any B.tb B.mt g.cm g.M f.sr (fmark f) hg.m) (hb:=.inr rfl) (h:=?_);rintro _ _ _ ⟨rfl,rfl,cm',hcm,rfl⟩;refine go 9 ?_;refine CW.cond rfl (fun hx=>?_) (fun hx=>?_)
     ·refine go 8 ?_;have hx: ¬iF g.M f.sr (fmark f)=0:=by simpa using hx
      have hL:eH B g f t=g.l:=by rw[eH,if_pos hB,if_pos he,if_neg hx]
      refine RQ.rea (fun _ h=>h) (H':=GI B ({ g with M:=gL g.M f.sr (fmark f),cm:=cm' })) rE ?_;exact RQ.post (az rfl rfl) (.keep (.keep (.keep (.keep (.keep (.keep (.keep .nil))))))) ⟨by rw[di,if_pos ht,if_pos hY,if_pos hk,if_pos he],rfl,cm',by rw[hM];exact hcm,by rw[hL,hM]⟩
     ·refine go 3 ?_;refine ae (Sq.of [0,1,2,3,4,5,6,7]) [6] [6] [0,1,2,4,7] (h:=?_);refine go 6 ?_;refine ax (lgood_any B.kb B.mo B.ti g.l f.sr hmo hg.l) (hb:=.inr rfl) (h:=?_);have hx:iF g.M f.sr (fmark f)=0:=by simpa using hx
      have hms:cE f.sr=true:=(kmay_zero hk).1;have hL:eH B g f t=goodL g.l f.sr:=by rw[eH,if_pos hB,if_pos he,if_pos hx]
      rintro _ _ _ ⟨rfl,rfl,rfl⟩;refine go 4 ?_;rw[if_pos hms];refine RQ.rea (fun _ h=>h) (H':=GI B ({ g with l:=goodL g.l f.sr,M:=gL g.M f.sr (fmark f),cm:=cm' })) rE ?_;exact RQ.post (az rfl rfl) (.keep (.keep (.keep (.keep (.keep (.keep (.keep .nil))))))) ⟨by rw[di,if_pos ht,if_pos hY,if_pos hk,if_pos he,hx],rfl,cm',by rw[hM];exact hcm,by rw[hL,hM]⟩
def oddG(n:Int):Bool:=Bool.or (decide (n<1)) (decide (n>14))
theorem oddG_any(n:Int):Spc Tryz.prog 260 #[.int .i64 n] [] [] (Is (.bool (oddG n))):=by
 refine Spc.enter Tryz.func260 (h:=?_);refine fun w0 hw0=>?_;refine go 10 ?_;apply au (d:=5) (dp:=8) (l':=(Sq.of [6])) rfl (sK [2] rfl)
 ·intro hb3 K3;refine go 3 ?_;exact K3 _ (.cons rfl (sK [2] rfl))
 ·intro hb3 K3;refine go 3 ?_;exact K3 _ (.cons rfl (sK [2] rfl))
 refine go 4 ?_;exact RQ.post (az rfl rfl) (aa _) ⟨rfl,rfl,rfl⟩
def gN:List Int→Nat→Int
 | [],_=> -1
 | x::r,i=>if oddG x then(i:Int) else gN r (i+1)
theorem oddGFind_any:∀(l:List Int) (i:Nat),decide (gN l i≥0)=l.any oddG
 | [],i=>rfl
 | x::r,i=>by
  rw[gN,List.any_cons]
  cases h:oddG x
  ·rw[if_neg (by simp),oddGFind_any r (i+1)];simp
  ·rw[if_pos rfl];simp
theorem oddGFind_walk(p:Option Addr)(n c:Nat)(l:List Int)(hn:l.length=n)(hb:n≤1000000000):Spc Tryz.prog 341 #[.slice p n c,.func (.func 260) #[] #[]] [sls p 1 n (bO l)] [] (Is (.int .i64 (gN l 0))):=by
 subst hn;refine Spc.enter Tryz.func341 (h:=?_);refine fun w0 hw0=>?_;refine go 14 ?_;refine CW.loop (γ:=Nat) (fun i=>i≤l.length∧gN l 0=gN (l.drop i) i) (fun i=>[(0,.slice p l.length c),(1,.func (.func 260) #[] #[]),(7,.int .i64 (l.length:Int)),(8,.int .i64 (i:Int))]) (fun _=>[sls p 1 l.length (bO l)]) (fun _=>[]) (fun i=>l.length-i) 0 ⟨by omega,by simp⟩ (.cons rfl (.cons rfl (.cons rfl (.cons rfl .nil)))) (fun w h=>h) ?_;rintro i ⟨hi,he⟩;refine aR (p:=p=none→l.length=0) (fun w hC e=>bf (hC.s.i _ (List.Mem.head _)) e) (fun hpp=>?_);refine go 6 ?_;refine CW.cond rfl (fun hlt=>?_) (fun hlt=>?_)
 ·have hlt:i<l.length:=by simp at hlt;omega
  obtain⟨a,rfl⟩:∃a,p=some a:=by
   cases p with
   | none=>exact absurd (hpp rfl) (by omega)
   | some a=>exact⟨a,rfl⟩
  have hd:l.drop i=l[i]::l.drop (i+1):=List.drop_eq_getElem_cons hlt;rw[hd,gN] at he;refine go 15 ?_;refine aS (j:=i) (ho:=rfl) (hlt:=hlt) (h:=?_);refine RL.load (ho:=rfl) (hr:=dP mQ (show(bO l)[i*1]?=some (.int .i64 l[i]) by rw[Nat.mul_one,List.getElem?_map,List.getElem?_eq_getElem hlt];rfl)) (h:=?_);refine RL.callvF (oddG_any l[i]) Tryz.call260 rfl rfl rfl rfl rfl (by repeat (first|exact Lend.nil|(refine Lend.inI ?_ ?_;(solve|(repeat (first|exact List.Mem.head _|apply List.Mem.tail))))|(refine Lend.inH ?_ ?_;(solve|(repeat (first|exact List.Mem.head _|apply List.Mem.tail)))))) ?_;refine go 2 ?_;refine CW.cond rfl (fun ho=>?_) (fun ho=>?_)
  ·refine go 12 ?_;rw[if_pos ho] at he;exact RQ.post (az rfl rfl) (aa _) ⟨by rw[he],rfl,rfl⟩
  ·refine go 4 ?_;refine ap rfl (ad (by omega) (by omega)) ?_;refine go 2 ?_;rw[if_neg (by rw[ho];decide)] at he;refine NQ.round (g:=i) (i+1) ⟨hlt,he⟩ (by show l.length-(i+1)<l.length-i;omega) (.cons rfl (.cons rfl (.cons rfl (.cons rfl .nil)))) (fun w h=>h)
 ·refine go 11 ?_;have hin:i=l.length:=by simp at hlt;omega
  subst hin;rw[List.drop_length] at he;exact RQ.post (az rfl rfl) (aa _) ⟨by rw[he];rfl,rfl,rfl⟩
theorem oddGHas_walk(p:Option Addr)(n c:Nat)(l:List Int)(hn:l.length=n)(hb:n≤1000000000):Spc Tryz.prog 261 #[.slice p n c,.func (.func 260) #[] #[]] [sls p 1 n (bO l)] [] (Is (.bool (l.any oddG))):=by refine Spc.enter Tryz.func261 (h:=?_);refine fun w0 hw0=>?_;refine go 9 ?_;refine ab (oddGFind_walk p n c l hn hb) (h:=?_);refine go 5 ?_;exact RQ.post (az rfl rfl) (aa _) ⟨by rw[←oddGFind_any l 0],rfl,rfl⟩
def chkD(D:Int→Int)(e:Int):Int→Int:=fun e'=>if e'=e then IntKind.i64.wrap (D e+1) else D e'
def CheckR(B:GB)(g:GSt)(f:Fr)(t:Int):Value→List It→List It→Prop:=fun v I' H'=>v=.int .i64 (di g f t)∧I'=[]∧∃cm ct,MRel cm (ew g f t)∧DRel ct (chkD g.D (di g f t))∧H'=GI B { g with l:=eH B g f t,M:=ew g f t,cm:=cm,D:=chkD g.D (di g f t),ct:=ct }
theorem gcheck_any(B:GB)(g:GSt)(f:Fr)(p:Option Addr)(c n:Nat)(t:Int)(hmo:B.mo≠0)(hg:GOk g)(hf:f.Ok)(hn:f.b.length=n)(hb:n≤900000):Spc Tryz.prog 92 #[.pointer (some ⟨B.gb,0,none⟩),.int .i64 t,.agg (f.cells (.slice p n c)).toArray] [sls p 1 n (bytes f.b)] (GI B g) (CheckR B g f t):=by have hl:=dT hf.tag (.slice p n c);refine Spc.enter Tryz.func92 (h:=?_);refine fun w0 hw0=>?_;refine go 10 ?_;intro b1;refine ab (gis_any B) (h:=?_);refine go 11 ?_;refine ax (glook_any B g f p c n t hmo hg hf hn hb) (hb:=.inr rfl) (h:=?_);rintro _ _ _ ⟨rfl,rfl,cm',hcm,rfl⟩;refine go 10 ?_;refine RL.lookup keyE' (ho:=rfl) (hk:=⟨di g f t,rfl⟩) (hm:=MapAt.own mQ) (h:=?_);rw[hg.d (di g f t)];refine go 1 ?_;refine RL.mapUpdate keyE' (ho:=rfl) (hk:=⟨di g f t,rfl⟩) (hup:=uE) (h:=?_);refine go 9 ?_;refine RQ.rea (fun _ h=>h) (H':=GI B ({ g with l:=eH B g f t,M:=ew g f t,cm:=cm',D:=chkD g.D (di g f t),ct:=cD (.int .i64 (di g f t)) (.int .i64 (IntKind.i64.wrap (g.D (di g f t)+1))) g.ct })) rE ?_;exact RQ.post (az rfl rfl) (.keep (.keep (.keep (.keep (.keep (.keep (.keep .nil))))))) ⟨rfl,rfl,cm',_,hcm,hg.d.set _ _,rfl⟩
def srcE(g:GSt)(s:Int)(ks:List Int):Int:=if ks=[]∨ks.any oddG=true then 2 else kputE g.T s
def addY(Y:Int→Int→Bool)(s:Int)(ks:List Int):Int→Int→Bool:=fun a b=>(a==s&&ks.contains b)||Y a b
def srcT(g:GSt)(s:Int)(k:List B8)(ks:List Int)(b:Nat):List One:=if ks=[]∨ks.any oddG=true then g.T else putT g.T s k b
def srcY(g:GSt)(s:Int)(ks:List Int):Int→Int→Bool:=if srcE g s ks=0 then addY g.Y s ks else g.Y
def SrcGR(B:GB)(g:GSt)(s:Int)(k:List B8)(ks:List Int):Value→List It→List It→Prop:=fun v I' H'=>v=.int .i64 (srcE g s ks)∧I'=[]∧∃b c' cy,KOk (srcT g s k ks b) c'∧YRel cy (srcY g s ks)∧H'=GI B { g with T:=srcT g s k ks b,c:=c',Y:=srcY g s ks,cy:=cy }
theorem addY_snoc{Y:Int→Int→Bool}{s:Int}{ks:List Int}{x:Int}:(fun a b=>(a==s&&b==x)||addY Y s ks a b)=addY Y s (ks++[x]):=by
 funext a b;simp only[addY,List.contains_eq_mem,List.mem_append,List.mem_singleton];by_cases h1:a=s
 ·subst h1;by_cases h2:b=x<;>simp[h2]
 ·have:(a==s)=false:=by simpa using h1
  simp[this]
theorem addY_nil{Y:Int→Int→Bool}{s:Int}:addY Y s []=Y:=by funext a b;simp[addY]
theorem gsource_any(B:GB)(g:GSt)(s:Int)(k:List B8)(kp:Option Addr)(c n:Nat)(ks:List Int)(hg:GOk g)(hk:k.length=32)(hn:ks.length=n)(hb:n≤1000000):Spc Tryz.prog 186 #[.pointer (some ⟨B.gb,0,none⟩),.int .i64 s,.agg (bytes k).toArray,.slice kp n c] [sls kp 1 n (bO ks)] (GI B g) (SrcGR B g s k ks):=by
 subst hn;refine Spc.enter Tryz.func186 (h:=?_);refine fun w0 hw0=>?_;refine go 16 ?_;intro b1;refine ab (gis_any B) (h:=?_);refine go 11 ?_;apply au (d:=21) (dp:=25) (l':=(Sq.of [8])) rfl (sK [0,1,3,6,8] rfl)
 ·intro hb4 K4;refine go 2 ?_;refine ab (oddGHas_walk kp ks.length c ks rfl (by omega)) (h:=?_);refine go 1 ?_;exact K4 _ (.cons rfl (sK [0,1,3,6,8] rfl))
 ·intro hb4 K4;refine go 4 ?_;exact K4 _ (.cons rfl (sK [0,1,3,6,8] rfl))
 refine go 3 ?_;refine CW.cond rfl (fun h=>?_) (fun h=>?_)
 ·refine go 8 ?_;have hO:ks=[]∨ks.any oddG=true:=by simp at h;simpa using h
  have hE:srcE g s ks=2:=by rw[srcE,if_pos hO]
  have hT:∀b,srcT g s k ks b=g.T:=fun b=>by rw[srcT,if_pos hO]
  have hY:srcY g s ks=g.Y:=by rw[srcY,hE];rfl
  refine RQ.rea (fun _ h=>h) (H':=GI B (g)) rE ?_;exact RQ.post (az rfl rfl) (.keep (.keep (.keep (.keep (.keep (.keep (.keep .nil))))))) ⟨by rw[hE],rfl,0,g.c,g.cy,by rw[hT];exact hg.k,by rw[hY];exact hg.y,by rw[hT,hY]⟩
 ·refine go 4 ?_;refine ae (Sq.of [0,1,2,3,4,5,6,7]) [6] [6] [0,1,2,4,7] (h:=?_);refine go 6 ?_;refine ax (kput_any B.r B.m1 B.m2 g.T g.c s k hk hg.t hg.k) (hb:=.inr rfl) (h:=?_);have hO: ¬(ks=[]∨ks.any oddG=true):=by simp at h;simpa using h
  have hE:srcE g s ks=kputE g.T s:=by rw[srcE,if_neg hO]
  have hT:∀b,srcT g s k ks b=putT g.T s k b:=fun b=>by rw[srcT,if_neg hO]
  rintro _ _ _ ⟨rfl,rfl,b,c',hc',rfl⟩;refine go 10 ?_;refine CW.cond rfl (fun he=>?_) (fun he=>?_)
  ·refine go 8 ?_;have he: ¬kputE g.T s=0:=by simpa using he
   have hY:srcY g s ks=g.Y:=by rw[srcY,hE,if_neg he]
   refine RQ.rea (fun _ h=>h) (H':=GI B ({ g with T:=putT g.T s k b,c:=c' })) rE ?_;exact RQ.post (az rfl rfl) (.keep (.keep (.keep (.keep (.keep (.keep (.keep .nil))))))) ⟨by rw[hE],rfl,b,c',g.cy,by rw[hT];exact hc',by rw[hY];exact hg.y,by rw[hT,hY]⟩
  ·refine go 11 ?_;have he:kputE g.T s=0:=by simpa using he
   have hY:srcY g s ks=addY g.Y s ks:=by rw[srcY,hE,if_pos he]
   refine CW.loop (γ:=Nat×List (Value×Value)) (fun z=>z.1≤ks.length∧YRel z.2 (addY g.Y s (ks.take z.1))) (fun z=>[(0,.pointer (some ⟨B.gb,0,none⟩)),(1,.int .i64 s),(10,.int .i64 (kputE g.T s)),(36,.slice kp ks.length c),(37,.int .i64 (ks.length:Int)),(38,.int .i64 (z.1:Int))]) (fun _=>[sls kp 1 ks.length (bO ks)]) (fun z=>GI B { g with T:=putT g.T s k b,c:=c',cy:=z.2 }) (fun z=>ks.length-z.1) (0,g.cy) ⟨by omega,by rw[List.take_zero,addY_nil];exact hg.y⟩ (.cons rfl (.cons rfl (.cons rfl (.cons rfl (.cons rfl (.cons rfl .nil)))))) (fun w h=>h.rea (fun _ h=>by simpa using h) rE) ?_;rintro⟨i,cy⟩ ⟨hi,hcy⟩;dsimp only at hi hcy ⊢;refine aR (p:=kp=none→ks.length=0) (fun w hC e=>bf (hC.s.i _ (List.Mem.head _)) e) (fun hpp=>?_);refine go 6 ?_;refine CW.cond rfl (fun hlt=>?_) (fun hlt=>?_)
   ·have hlt:i<ks.length:=by simp at hlt;omega
    cases kp with
    | none=>exact absurd (hpp rfl) (by omega)
    | some a=>
    have f1:=RdI.sls (I:=[sls (some a) 1 ks.length (bO ks)]) (List.Mem.head _) (List.getElem?_eq_getElem hlt);have htk:=List.take_succ_eq_append_getElem hlt;generalize ks[i]=x at f1 htk;refine go 6 ?_;first|refine aP (j:=i) KU87.h KS3.h rfl rfl rfl rfl rfl rfl (hlt) ?_|refine aS (j:=i) KU87.h KS3.h rfl rfl rfl rfl rfl rfl (hlt) ?_
    refine go 7 ?_;first|refine RL.fieldAddr KF332_3.h rfl rfl rfl rfl ?_|refine d4 KF332_3.h rfl rfl rfl rfl ?_
    refine go 4 ?_;refine RL.mapUpdate kkeyR (ho:=rfl) (hk:=⟨s,x,rfl⟩) (hup:=uE) (h:=?_);refine go 4 ?_;refine ap rfl (ad (by omega) (by omega)) ?_;refine go 2 ?_;refine NQ.round (g:=(i,cy)) (i+1,cD (rt s x) (.bool true) cy) ⟨hlt,by show YRel (cD (rt s x) (.bool true) cy) (addY g.Y s (ks.take (i+1)));rw[htk,←addY_snoc];exact hcy.set s x⟩ (by show ks.length-(i+1)<ks.length-i;omega) (.cons rfl (.cons rfl (.cons rfl (.cons rfl (.cons rfl (.cons rfl .nil)))))) (fun w h=>h)
   ·refine go 12 ?_;have hin:i=ks.length:=by simp at hlt;omega
    subst hin;rw[List.take_length] at hcy;exact RQ.post (az rfl rfl) (.keep (.keep (.keep (.keep (.keep (.keep (.keep .nil))))))) ⟨by rw[hE],rfl,b,c',cy,by rw[hT];exact hc',by rw[hY];exact hcy,by rw[hT,hY]⟩
def cW(T:List One):List Int:=T.map fun o=>(o.s:Int)
theorem c1_keys(T:List One):(c1 T).map (·.1)=bO (cW T):=by simp[c1,bO,cW,Function.comp_def]
def SrcR(r m1 m2:Nat)(T:List One)(c:List (Value×Value)):Value→List It→List It→Prop:=fun v I' H'=>∃ob cp,v=aE ob T.length cp∧I'=[]∧H'=[allI (eF r m1 m2 T c),own ob cp 3 1 T.length (bO (cn (cW T)))]
theorem RQ.ringCloseB{Q:Exit→Act→World→Prop}{N:Fm}{E:Env}{w0:World}{S:List Nat}{I H B:List It}{r m1 m2:Nat}{T:List One}{c:List (Value×Value)}
  (hr:Rea H (allI (T.map dX)::dh r m1 m2::aN m2 c9 c::aN m1 aF (c1 T)::B)) (h:RQ Q N E w0 S I (allI (eF r m1 m2 T c)::B)):RQ Q N E w0 S I H:=fun a w ha hw=>by
 have h1:=(hw.rea (fun _ h=>h) hr).unpack
 have hp:(T.map dX++(dh r m1 m2::aN m2 c9 c::aN m1 aF (c1 T)::B)).Perm (eF r m1 m2 T c++B):=by
  show(T.map dX++([dh r m1 m2,aN m2 c9 c,aN m1 aF (c1 T)]++B)).Perm _
  rw[←List.append_assoc]
  refine List.Perm.append_right B ?_
  refine List.perm_append_comm.trans ?_
  exact(List.Perm.swap _ _ _).cons _
 exact RQ.pack h a w ha (h1.perm hp)
theorem sources_any(r m1 m2:Nat)(T:List One)(c:List (Value×Value))(hl:T.length≤1000):Spc Tryz.prog 197 #[.pointer (some ⟨r,0,none⟩)] [] [allI (eF r m1 m2 T c)] (SrcR r m1 m2 T c):=by
 refine Spc.enter Tryz.func197 (h:=?_);refine fun w0 hw0=>?_;refine go 6 ?_;refine CW.ringOpen0 (cZ (e:=3) 1 (go 8 ?_));refine bj (hr:=fb KU328.h _) (h:=go 12 ?_);refine RL.range KU449.h rfl rfl rfl rfl rfl rfl pE (fun it=>?_);refine go 3 ?_;refine CW.loop (γ:=List (Value×Value)×List Int×Option Nat×Nat×Nat) (fun g=>(bO g.2.1++g.1.map (·.1)).Perm (bO (cW T))∧g.2.1.length=g.2.2.2.2) (fun g=>[(3,aE g.2.2.1 g.2.2.2.2 g.2.2.2.1),(12,.pointer (some ⟨it,0,none⟩))]) (fun _=>[]) (fun g=>[df m1 it aF (c1 T) g.1,own g.2.2.1 g.2.2.2.1 3 1 g.2.2.2.2 (bO g.2.1),allI (T.map dX),dh r m1 m2,aN m2 c9 c]) (fun g=>g.1.length) (c1 T,[],none,0,0) ⟨by rw[c1_keys];exact List.Perm.refl _,rfl⟩ (.cons rfl (.cons rfl .nil)) wE ?_;rintro⟨left,acc,ob,cp,n⟩ ⟨hp,hn⟩;dsimp only at hp hn ⊢;have hlen:n+left.length=T.length:=by have:=hp.length_eq;simp[cW,hn] at this;exact this
 refine aR (p:=∀p∈left,aF p.1) (fun w hC=>fun p hp=>((mapIt_facts (hC.s.h _ (List.Mem.head _))).2.2 p hp).2) (fun hgd=>?_);refine go 2 ?_;refine RL.nextC rfl rfl rfl rfl rfl rfl (.take (ai _)) (fun hl=>?_) (fun q p hq=>?_)
 ·subst hl;have hn2:n=T.length:=by simpa using hlen
  subst hn2;refine go 4 ?_;refine ag rfl ((by simp)) ?_;refine go 6 ?_;refine CW.unrange (go 2 ?_);refine ax (sortI_o ob cp T.length acc hn (by omega)) (hb:=.inr rfl) (h:=?_);rintro _ _ _ ⟨rfl,rfl,rfl⟩;refine go 9 ?_;have hs:cn acc=cn (cW T):=sortL_perm (ints_perm (by simpa using hp));rw[show(acc.mergeSort fun x y=>decide (x≤y))=cn (cW T) from hs];refine RQ.ringCloseB (T:=T) (B:=[own ob cp 3 1 T.length (bO (cn (cW T)))]) rE ?_;exact RQ.post (az rfl rfl) (.keep (.keep .nil)) ⟨ob,cp,rfl,rfl,rfl⟩
 ·obtain⟨s,hs⟩:=hgd p (List.mem_of_getElem? hq);obtain⟨pk,pv⟩:=p;dsimp only at hs;subst hs;refine go 4 ?_;refine aI rfl ((by simp)) ?_;refine go 5 ?_;refine RL.entry rfl rfl rfl rfl (List.Mem.head _) (go 7 ?_);refine RL.buildSlice [_] (ho:=rfl) (h:=?_);intro b1;refine go 4 ?_;intro ob1 cap1 ho1;refine NQ.round (g:=(left,acc,ob,cp,n)) (left.eraseIdx q,acc++[s],ob1,cap1,n+1) ⟨?_,by simp[hn]⟩ (by show(left.eraseIdx q).length<left.length;rw[List.length_eraseIdx_of_lt (List.getElem?_eq_some_iff.1 hq).1];have:=(List.getElem?_eq_some_iff.1 hq).1;omega) (.cons rfl (.cons rfl .nil)) (fun w h=>(h.rea (H':=[mapCt m1 it aF (c1 T) (left.eraseIdx q) (.int .i64 s,pv),own ob1 cap1 3 1 (n+1) (bO (acc++[s])),allI (T.map dX),dh r m1 m2,aN m2 c9 c]) (fun _ h=>h) (by rw[show bO (acc++[s])=bO acc++[.int .i64 s] by simp[bO]];exact rE)).uncur);refine List.Perm.trans ?_ hp;have h1:((left.map (·.1))).Perm (Value.int .i64 s::(left.eraseIdx q).map (·.1)):=by have:=perm_erase hq;exact(this.map (·.1))
  show(bO (acc++[s])++(left.eraseIdx q).map (·.1)).Perm (bO acc++left.map (·.1));rw[show bO (acc++[s])=bO acc++[.int .i64 s] by simp[bO],List.append_assoc];exact List.Perm.append_left _ h1.symm
def SrcG(B:GB)(g:GSt):Value→List It→List It→Prop:=fun v I' H'=>∃ob cp,v=aE ob g.T.length cp∧I'=[]∧H'=own ob cp 3 1 g.T.length (bO (cn (cW g.T)))::GI B g
theorem gsources_any(B:GB)(g:GSt)(hl:g.T.length≤1000):Spc Tryz.prog 124 #[.pointer (some ⟨B.gb,0,none⟩)] [] (GI B g) (SrcG B g):=by refine Spc.enter Tryz.func124 (h:=?_);refine fun w0 hw0=>?_;refine go 9 ?_;refine ab (gis_any B) (h:=?_);refine go 12 ?_;refine ax (sources_any B.r B.m1 B.m2 g.T g.c hl) (hb:=.inr rfl) (h:=?_);rintro _ _ _ ⟨ob,cp,rfl,rfl,rfl⟩;refine go 4 ?_;refine RQ.rea (fun _ h=>h) (H':=own ob cp 3 1 g.T.length (bO (cn (cW g.T)))::GI B g) rE ?_;exact RQ.post (az rfl rfl) (.keep (.keep (.keep (.keep (.keep (.keep (.keep (.keep .nil)))))))) ⟨ob,cp,rfl,rfl,rfl⟩
end Go.Proofs.YthlchaldjekokaaGreat
namespace Go.PK
theorem res3{N:Fm}{E:Env}{w0:World}{S:List Nat}{I H:List It}{P:Program}{fn:Func}{t u v:Tmp}{v1 v2 v3:Value}(hf:fn.results= #[.tmp t,.tmp u,.tmp v])(ht:E.get t=some v1)(hu:E.get u=some v2)(hv:E.get v=some v3):
  ∀a w,Ag N a E→Cls w0 S I H w→(results fn a.tmps).run P w=.ok (.tuple #[v1,v2,v3]) w:=fun a w ha _=>by
 rw[results_tmp3 hf];simp[ha.t t v1 ht,ha.t u v2 hu,ha.t v v3 hv]
end Go.PK
namespace Go.Proofs.YthlchaldjekokaaGreat
open Go.PK
theorem mmay_may{M:eG}{s:Int}{p:Nat×Nat}(h:iF M s p=0):cE s=true:=by
 by_cases hm:cE s=true
 ·exact hm
 ·rw[iF,if_neg hm] at h;cases h
theorem gepoch_any(B:GB)(g:GSt)(s:Int)(hg:GOk g):Spc Tryz.prog 128 #[.pointer (some ⟨B.gb,0,none⟩),.int .i64 s] (GI B g) [] (Is (.int .u32 (da g.T s:Int))):=by refine Spc.enter Tryz.func128 (h:=?_);refine fun w0 hw0=>?_;refine go 9 ?_;refine ab (gis_any B) (h:=?_);refine go 13 ?_;refine ab (epoch_any B.r B.m1 B.m2 g.T g.c s hg.t) (h:=?_);refine go 4 ?_;exact RQ.post (az rfl rfl) (aa _) ⟨rfl,rfl,rfl⟩
def iG(M:eG)(s:Int):Nat×Nat:=(M s).getD (0,0)
theorem klast_any(tb mt:Nat)(cm:List (Value×Value))(M:eG)(s:Int)(hM:MRel cm M):Spc Tryz.prog 198 #[.pointer (some ⟨tb,0,none⟩),.int .i64 s] [tabI tb mt,mksI mt cm] [] (Is (.tuple #[mkV (iG M s),.bool (M s).isSome])):=by
 refine Spc.enter Tryz.func198 (h:=?_);refine fun w0 hw0=>?_;refine go 10 ?_;intro b1;refine ab (ris_any tb mt) (h:=?_);refine go 13 ?_;refine ga keyI KU119.h KZ121.h rfl rfl rfl rfl rfl ⟨s,rfl⟩ (eS mQ) ?_;rw[show aO (.int .i64 s) cm=_ from hM s,iG]
 cases hq:M s with
 | none=>refine go 17 ?_;intro b2;exact RQ.post (bG rfl rfl rfl KA121.h KS121.h mQ rfl) (aa _) ⟨rfl,rfl,rfl⟩
 | some q=>obtain⟨c,d⟩:=q;refine go 17 ?_;intro b2;exact RQ.post (bG rfl rfl rfl KA121.h KS121.h mQ rfl) (aa _) ⟨rfl,rfl,rfl⟩
theorem gmark_any(B:GB)(g:GSt)(s:Int)(hg:GOk g):Spc Tryz.prog 127 #[.pointer (some ⟨B.gb,0,none⟩),.int .i64 s] (GI B g) [] (Is (.tuple #[mkV (iG g.M s),.bool (g.M s).isSome])):=by refine Spc.enter Tryz.func127 (h:=?_);refine fun w0 hw0=>?_;refine go 10 ?_;intro b1;refine ab (gis_any B) (h:=?_);refine go 13 ?_;refine ab (klast_any B.tb B.mt g.cm g.M s hg.m) (h:=?_);refine go 7 ?_;exact RQ.post (bG rfl rfl rfl KA121.h KS121.h mQ rfl) (aa _) ⟨rfl,rfl,rfl⟩
theorem take_gt{M:eG}{s:Int}{p:Nat×Nat}(hm:cE s=true):iF M s p=0↔(!(M s).isSome||gtB p (iG M s))=true:=by
 rw[iF,if_pos hm,iG]
 cases hq:M s with
 | none=>simp
 | some q=>
  dsimp only;by_cases h:gtB p q=true
  ·rw[if_pos h];simp[h]
  ·rw[if_neg h];simp[h]
theorem traise_any(tb mt:Nat)(cm:List (Value×Value))(M:eG)(s:Int)(p:Nat×Nat)(hM:MRel cm M):Spc Tryz.prog 264 #[.pointer (some ⟨tb,0,none⟩),.int .i64 s,mkV p] [] [tabI tb mt,mksI mt cm] (TakeR tb mt (gL M s p) (if cE s=true then 0 else 2)):=by
 refine Spc.enter Tryz.func264 (h:=?_);refine fun w0 hw0=>?_;refine go 10 ?_;intro b1;refine ab (rpmay_any tb mt s) (h:=?_);refine go 8 ?_;refine ab (klast_any tb mt cm M s hM) (h:=?_);refine go 13 ?_;intro b2;apply aL (d:=21) (dp:=29) (l':=(Sq.of [])) rfl (sK [0,1,5,6,7] rfl)
 ·intro hb3 K3;refine go 3 ?_;apply au (d:=24) (dp:=28) (l':=(Sq.of [10])) rfl (sK [0,1,5,6,7,21] rfl)
  ·intro hb6 K6;refine go 2 ?_;refine ab (ij p (iG M s)) (h:=?_);refine go 1 ?_;exact K6 _ (.cons rfl (sK [0,1,5,6,7,21] rfl))
  ·intro hb6 K6;refine go 4 ?_;exact K6 _ (.cons rfl (sK [0,1,5,6,7,21] rfl))
  refine go 1 ?_;exact K3 _ (.cons rfl (sK [0,1,5,6,7] rfl))
 ·intro hb3 K3;refine go 8 ?_;exact K3 _ (.cons rfl (sK [0,1,5,6,7] rfl))
 refine go 2 ?_;refine CW.cond rfl (fun h=>?_) (fun h=>?_)
 ·refine ae (Sq.of [0,1,2,3,4,5,6]) [6] [6] [0,1,2,4] (h:=?_);refine go 6 ?_
  have hm:cE s=true:=by
   by_cases hm:cE s=true
   ·exact hm
   ·rw[if_neg hm] at h;simp at h
  have h0:iF M s p=0:=(take_gt hm).2 (by rw[if_pos hm] at h;simpa using h);refine RL.mapUpdate keyI (ho:=rfl) (hk:=⟨s,rfl⟩) (hup:=uE) (h:=?_);refine go 9 ?_;exact RQ.post (az rfl rfl) (.drop (.drop (.keep (.keep .nil)))) ⟨rfl,rfl,_,by rw[gL,if_pos h0];exact hM.set s p,rfl⟩
 ·refine go 9 ?_;have h0: ¬iF M s p=0:=fun h0=>by have hm:=mmay_may h0;have:=(take_gt hm).1 h0;rw[if_pos hm,this] at h;cases h
  exact RQ.post (az rfl rfl) (.drop (.drop (.keep (.keep .nil)))) ⟨rfl,rfl,cm,by rw[gL,if_neg h0];exact hM,rfl⟩
def graE(g:GSt)(s:Int)(p:Nat×Nat):Int:=if fF g.T s p.1=0 then(if cE s=true then 0 else 2) else fF g.T s p.1
def graM(g:GSt)(s:Int)(p:Nat×Nat):eG:=if fF g.T s p.1=0 then gL g.M s p else g.M
def GRaiseR(B:GB)(g:GSt)(T':List One)(M':eG)(x:Int):Value→List It→List It→Prop:=fun v I' H'=>v=.int .i64 x∧I'=[]∧∃c' cm',KOk T' c'∧MRel cm' M'∧H'=GI B { g with T:=T',c:=c',M:=M',cm:=cm' }
theorem graise_any(B:GB)(g:GSt)(s:Int)(p:Nat×Nat)(hg:GOk g)(he:p.1<4294967296):Spc Tryz.prog 187 #[.pointer (some ⟨B.gb,0,none⟩),.int .i64 s,mkV p] [] (GI B g) (GRaiseR B g (eI g.T s p.1) (graM g s p) (graE g s p)):=by
 refine Spc.enter Tryz.func187 (h:=?_);refine fun w0 hw0=>?_;refine go 10 ?_;intro b1;refine ab (gis_any B) (h:=?_);refine go 8 ?_;refine ae (Sq.of [0,1,2,3,4,5,6,7,8]) [7] [7] [0,1,2,4,5,8] (h:=?_);refine go 7 ?_;refine ax (raise_any B.r B.m1 B.m2 g.T g.c s p.1 hg.t hg.k he) (hb:=.inr rfl) (h:=?_);rintro _ _ _ ⟨rfl,rfl,c',hc',rfl⟩;refine go 9 ?_;refine CW.cond rfl (fun h=>?_) (fun h=>?_)
 ·refine go 8 ?_;have h: ¬fF g.T s p.1=0:=by simpa using h
  have hM:graM g s p=g.M:=by rw[graM,if_neg h]
  rw[hM];refine RQ.rea (fun _ h=>h) (H':=GI B ({ g with T:=eI g.T s p.1,c:=c' })) rE ?_;exact RQ.post (az rfl rfl) (.keep (.keep (.keep (.keep (.keep (.keep (.keep .nil))))))) ⟨by rw[graE,if_neg h],rfl,c',g.cm,hc',hg.m,rfl⟩
 ·refine go 3 ?_;refine ae (Sq.of [0,1,2,3,4,5,6,7]) [6] [6] [0,1,2,4,7] (h:=?_);refine go 6 ?_;refine ax (traise_any B.tb B.mt g.cm g.M s p hg.m) (hb:=.inr rfl) (h:=?_);have h:fF g.T s p.1=0:=by simpa using h
  have hM:graM g s p=gL g.M s p:=by rw[graM,if_pos h]
  rw[hM];rintro _ _ _ ⟨rfl,rfl,cm',hcm',rfl⟩;refine go 4 ?_;refine RQ.rea (fun _ h=>h) (H':=GI B ({ g with T:=eI g.T s p.1,c:=c',M:=gL g.M s p,cm:=cm' })) rE ?_;exact RQ.post (az rfl rfl) (.keep (.keep (.keep (.keep (.keep (.keep (.keep .nil))))))) ⟨by rw[graE,if_pos h],rfl,c',cm',hc',hcm',rfl⟩
end Go.Proofs.YthlchaldjekokaaGreat
