/- Part 1 of the proof. -/
import Derived.WalkKit
import Derived.Deep.Quiet
import Derived.OrdersIn
import Derived.RangeFuncIn
import Derived.RangeFuncRecord
import Derived.LoopNIn
import Derived.Deep.LoopGhost
import Derived.ChangeKeysEq
import Derived.ChangeShapes
import Derived.ChangeArms
import Derived.Deep.Slices
import Derived.OpenShut
import Derived.ShutString
import Derived.ChangeOld
import Derived.Below
import Derived.Carry
import Derived.ProofKit
import Derived.JoinedOf
import Derived.Laws.BytesString
import Derived.DeepKeys
import Derived.Test.YthlchaldjekokaaGreatRows
import Derived.KernelRfl
set_option linter.all false
namespace Go.PK
class KA(P:Program)(t:TypeId)(b:outParam Bool):Prop where
 h:∀w,(isAgg t).run P w=.ok b w
class KS(P:Program)(t:TypeId)(n:outParam Nat):Prop where
 h:∀w,(sizeOf t).run P w=.ok n w
class KU(P:Program)(t:TypeId)(u:outParam TypeDesc):Prop where
 h:∀w,(underlying t).run P w=.ok u w
class KZ(P:Program)(t:TypeId)(z:outParam Value):Prop where
 h:∀w,(zeroValue t).run P w=.ok z w
class KF(P:Program)(t:TypeId)(j:Nat)(o:outParam Nat):Prop where
 h:∀p w,(Instr.fieldAt t (.pointer (some p)) j).run P w=.ok (.pointer (some (p.add o))) w
def dD(P:Program)(o:Oper)(a:Act)(w:World)(K:Value→World→Prop):Prop:=
 match (execOp a.eval o).run P w with
 | .ok (.value v) w'=>K v w'
 | .ok .skip w'=>K undef w'
 | .ok (.enter f args) w'=>Calls P f args w' (fun e w''=>∃v,e=.returned v∧K v w'')
 | .ok (.round l f tmps assign body) w'=>RoundIn Fence.wide 0 P l f tmps assign body w' (fun e w''=>∃v,e=.returned v∧K v w'')
 | _=>False
theorem does_mono{P:Program}{o:Oper}{a:Act}{w:World}{K K':Value→World→Prop}(h:∀v w',K v w'→K' v w')(hd:dD P o a w K):dD P o a w K':=by
 unfold dD at*;split at hd
 ·exact h _ _ hd
 ·exact h _ _ hd
 ·exact hd.mono fun e w'' ⟨v,he,hk⟩=>⟨v,he,h _ _ hk⟩
 ·exact RoundIn.mono hd fun e w'' ⟨v,he,hk⟩=>⟨v,he,h _ _ hk⟩
 ·exact hd.elim
theorem does_congr{P:Program}{o:Oper}{a a':Act}{w:World}{K:Value→World→Prop}(h:execOp a.eval o=execOp a'.eval o):dD P o a w K=dD P o a' w K:=by unfold dD;rw[h]
abbrev dr0(w:World):Nat:=0 ---/ w.drawn
structure Keeps(S:List Nat)(w w':World):Prop where
 os:w'.os=w.os
 tape:w'.tape=w.tape
 output:w'.output=w.output
 size:w.heap.size≤w'.heap.size
 block:∀b,b<w.heap.size→b∉S→w'.heap[b]?=w.heap[b]?
 drawn:dr0 w≤dr0 w'
abbrev Grow(w w':World):Prop:=Keeps [] w w'
theorem Keeps.refl(S:List Nat)(w:World):Keeps S w w:=⟨rfl,rfl,rfl,Nat.le_refl _,fun _ _ _=>rfl,Nat.le_refl _⟩
theorem Keeps.trans{S:List Nat}{a b c:World}(h:Keeps S a b)(k:Keeps S b c):Keeps S a c:=
 ⟨k.os.trans h.os,k.tape.trans h.tape,k.output.trans h.output,Nat.le_trans h.size k.size,fun i hi hn=>(k.block i (Nat.lt_of_lt_of_le hi h.size) hn).trans (h.block i hi hn),Nat.le_trans h.drawn k.drawn⟩
theorem Keeps.mono{S S':List Nat}{a b:World}(h:Keeps S a b)(hs:∀x∈S,x∈S'):Keeps S' a b:=
 ⟨h.os,h.tape,h.output,h.size,fun i hi hn=>h.block i hi fun hx=>hn (hs i hx),h.drawn⟩
theorem Keeps.drew(S:List Nat)(w:World)(n:Nat)(h:w.drawn≤n):Keeps S w { w with drawn:=n }:=⟨rfl,rfl,rfl,Nat.le_refl _,fun _ _ _=>rfl,by first|exact h|exact Nat.le_refl 0⟩
def Open(C:World→Prop):Prop:=∀w w',C w→Grow w w'→C w'
def pureOp:Op→Bool
 | .move _ | .assign _ | .pick .. | .extract .. | .binOp .. | .unOp .. | .slice .. | .fieldAddr .. | .indexAddr .. | .nilCheck _ | .build .. | .sliceToArrayPointer .. | .index .. | .field .. =>true
 | _=>false
inductive Sq
 | nil
 | cons (i:Nat) (l:Sq)
 | fork (ks:List Nat) (f:Nat→Sq)
def Sq.of:List Nat→Sq
 | []=>.nil
 | i::l=>.cons i (Sq.of l)
def stepRW (P : Program) (ops : Array Oper) (ef bk tq : List Nat) (T : World → Prop) (i : Nat) (R : Act → (World → Prop) → Prop) (a : Act) (C : World → Prop) : Prop :=
  ∃ o, ops[i]? = some o ∧
      ((Region.wanted o (yielded ops a.tmps) = false ∧ R (a.put o.dst undef) C) ∨
       (Region.wanted o (yielded ops a.tmps) = true ∧
         ((∃ v, (∀ w, (pureOp o.op = true ∨ (i ∈ tq ∧ T w) ∨ C w) → dD P o a w (fun u w' => u = v ∧ Grow w w')) ∧ R (a.put o.dst v) C) ∨
          (i ∈ ef ∧ ∀ w, C w → dD P o a w (fun v w' => ∃ C' : World → Prop, (Open C' ∧ ∀ w, C' w → T w) ∧ C' w' ∧ (i ∉ bk → ∀ w, C' w → C w) ∧ R (a.put o.dst v) C')))))
def RW(P:Program)(ops:Array Oper)(ef bk tq:List Nat)(T:World→Prop)(Q:Exit→Act→World→Prop):Sq→Act→(World→Prop)→Prop
 | .nil,a,C=>∀w,C w→Q .normal a w
 | .cons i l,a,C=>stepRW P ops ef bk tq T i (fun a C=>RW P ops ef bk tq T Q l a C) a C
 | .fork ks f,a,C=>∀k∈ks,stepRW P ops ef bk tq T k (fun a C=>RW P ops ef bk tq T Q (f k) a C) a C
def Opn(T C:World→Prop):Prop:=Open C∧∀w,C w→T w
variable {P:Program} {ops:Array Oper} {ef bk tq:List Nat} {T:World→Prop} {Q:Exit→Act→World→Prop}
abbrev FnR(ro:Option Nat):Fence:= { Fence.wide with round:=ro }
theorem does_nodefer{o:Oper}{a:Act}{K:Value→World→Prop}{w:World}(h:dD P o a w K):∀c,o.op≠.defer c:=by
 intro c hc;unfold dD at h;have e:execOp a.eval o=(do pure (.defer (←resolve a.eval c o.type))):=by unfold execOp;rw[hc]
 rw[e,Sem.run_bind] at h
 cases hr:(resolve a.eval c o.type).run P w with
 | ok d w'=>rw[hr] at h;exact h
 | halt x w'=>rw[hr] at h;exact h
variable {ro:Option Nat}
theorem wp_of_does{o:Oper}{a:Act}{K:Act→World→Prop}{w:World}(h:dD P o a w (fun v w'=>K (a.put o.dst v) w')):o.wpIn (FnR ro) 0 P a w K Q:=by
 refine⟨fun _ _=>trivial,?_⟩;rw[Oper.semAt_eq _ _ _ (does_nodefer h)];unfold dD at h;generalize (execOp a.eval o).run P w=r at*
 cases r with
 | ok n w'=>
  cases n<;>simp only[Oper.uponIn] at h ⊢ <;> try exact h
  ·exact⟨fun h=>(by cases h),CallsIn.mono (callsIn_wide (n:=0) |>.2 h) fun e w'' ⟨v,he,hk⟩=>by subst he;exact hk⟩
  ·exact⟨fun h=>(by cases h),RoundIn.mono h fun e w'' ⟨v,he,hk⟩=>by subst he;exact hk⟩
 | halt x w'=>exact h.elim
def doesAt(P:Program)(ops:Array Oper)(i:Nat)(a:Act)(w:World)(K:Act→World→Prop):Prop:=
 ∃o,ops[i]?=some o∧((Region.wanted o (yielded ops a.tmps)=false∧K (a.put o.dst undef) w)∨
  (Region.wanted o (yielded ops a.tmps)=true∧dD P o a w (fun v w'=>K (a.put o.dst v) w')))
theorem wpOp_of_doesAt{i:Nat}{a:Act}{w:World}{K:Act→World→Prop}(h:doesAt P ops i a w K):wpOpIn (FnR ro) 0 P ops Q i K a w:=by
 obtain⟨o,ho,h⟩:=h;unfold wpOpIn;simp only[ho];rcases h with⟨hw,h⟩|⟨hw,h⟩
 ·simp only[hw,Bool.false_eq_true,if_false];exact⟨fun _ _=>trivial,h⟩
 ·simp only[hw,if_true];exact wp_of_does h
theorem RW.first{i:Nat}{R:Act→(World→Prop)→Prop}{a:Act}{C:World→Prop}{w:World}(hO:Opn T C)(h:stepRW P ops ef bk tq T i R a C)(hC:C w):doesAt P ops i a w (fun a' w'=>∃C':World→Prop,Opn T C'∧C' w'∧(i∉bk→∀w,C' w→C w)∧R a' C'):=by
 obtain⟨o,ho,h⟩:=h;refine⟨o,ho,?_⟩;rcases h with⟨hw,h⟩|⟨hw,h⟩
 ·exact .inl ⟨hw,C,hO,hC,fun _ _ h=>h,h⟩
 ·refine .inr ⟨hw,?_⟩;rcases h with⟨v,hq,h⟩|⟨_,h⟩
  ·exact does_mono (fun u w' ⟨hu,hG⟩=>⟨C,hO,hO.1 _ _ hC hG,fun _ _ h=>h,hu▸h⟩) (hq w (.inr (.inr hC)))
  ·exact h w hC
theorem RW.text:∀(l:List Nat) (a:Act) (C:World→Prop) (w:World),Opn T C→RW P ops ef bk tq T Q (Sq.of l) a C→C w→wpOpsIn (FnR ro) 0 P ops Q l a w
 | [],_,_,w,_,h,hC=>h w hC
 | i::l,a,C,w,hO,h,hC=>by
  rw[wpOpsIn_cons]
  refine wpOpIn_mono ?_ (wpOp_of_doesAt (RW.first hO h hC))
  rintro a' w' ⟨C',hO',hC',_,h⟩
  exact RW.text l a' C' w' hO' h hC'
def rel(Tb:Array Nat)(i j:Nat):Bool:=(Tb.getD j 0).testBit i
def boundOf(o:Oper):List Nat:=(o.after.toList.filter (fun e=>Region.binds .any e)).map (·.on)
def dF(ops:Array Oper)(j:Nat):List Nat:=match ops[j]? with|some o=>boundOf o|none=>[]
def hZ(ops:Array Oper)(Tb:Array Nat):Bool:=
 (List.range ops.size).all fun j=>(dF ops j).all (fun k=>Nat.blt k j) &&
  (List.range ops.size).all fun i=>!rel Tb i j||(dF ops j).any (fun k=>k==i||rel Tb i k)
def apartAt(ops:Array Oper)(i j:Nat):Bool:=match ops[i]?,ops[j]? with|some x,some y=>x.apart ops y|_,_=>false
def pureAt(ops:Array Oper)(i:Nat):Bool:=match ops[i]? with|some x=>pureOp x.op|none=>false
def pairOk(ops:Array Oper)(Tb:Array Nat)(ef bk tq:List Nat)(i j:Nat):Bool:=
 rel Tb i j||(apartAt ops i j && !ef.contains i&&(!bk.contains j||pureAt ops i||tq.contains i))
def okS(ops:Array Oper)(Tb:Array Nat)(ef bk tq:List Nat):List Nat→Sq→Bool
 | rem,.nil=>rem.isEmpty
 | rem,.cons i l=>rem.contains i&&(dF ops i).all (fun k=>!rem.contains k)&&(rem.erase i).all (fun k=>pairOk ops Tb ef bk tq i k)&&okS ops Tb ef bk tq (rem.erase i) l
 | rem,.fork ks f=>rem.all (fun j=>ks.contains j||(dF ops j).any (fun k=>rem.contains k))&&ks.all (fun k=>okS ops Tb ef bk tq (rem.erase k) (f k)) && !rem.isEmpty
def chk(ops:Array Oper)(s:Sq)(ef bk tq:List Nat):Bool:=
 hZ ops (Region.before ops)&&okS ops (Region.before ops) ef bk tq (List.range ops.size) s&&Region.noSelect ops
theorem gB{Tb:Array Nat}(h:hZ ops Tb=true){j k:Nat}(hj:j<ops.size)(hk:k∈dF ops j):k<j:=by simp only[hZ,List.all_eq_true,List.mem_range,Bool.and_eq_true] at h;have:=(h j hj).1 k hk;simpa using this
theorem closedT_rel{Tb:Array Nat}(h:hZ ops Tb=true){i j:Nat}(hi:i<ops.size)(hj:j<ops.size)(hr:rel Tb i j=true):∃k∈dF ops j,k=i∨rel Tb i k=true:=by simp only[hZ,List.all_eq_true,List.mem_range,Bool.and_eq_true] at h;have:=(h j hj).2 i hi;simp only[hr,Bool.not_true,Bool.false_or,List.any_eq_true,Bool.or_eq_true,beq_iff_eq] at this;exact this
theorem rel_out{Tb:Array Nat}(h:hZ ops Tb=true){l:List Nat}(hd:∀j,j<ops.size→j∉l→∀k∈dF ops j,k∉l){i:Nat}(hi:i<ops.size)(hil:i∈l):∀j,j<ops.size→j∉l→rel Tb i j=false:=by
 intro j
 induction j using Nat.strongRecOn with
 | _ j ih=>
  intro hj hjl;cases hr:rel Tb i j
  ·rfl
  ·obtain⟨k,hk,h'⟩:=closedT_rel h hi hj hr;have hkl:=hd j hj hjl k hk;rcases h' with rfl|h'
   ·exact absurd hil hkl
   ·have hlt:=gB h hj hk;rw[ih k hlt (by omega) hkl] at h';cases h'
theorem mem_boundAt{j k:Nat}{o:Oper}(ho:ops[j]?=some o):k∈dF ops j↔∃e∈o.after,Region.binds .any e=true∧e.on=k:=by simp[dF,ho,boundOf,and_assoc]
theorem RW.move{Tb:Array Nat}(hs:Region.noSelect ops=true)(hT:hZ ops Tb=true):∀(s:Sq) (rem:List Nat),okS ops Tb ef bk tq rem s=true→rem.Nodup→(∀j∈rem,j<ops.size)→(∀j,j<ops.size→j∉rem→∀k∈dF ops j,k∉rem)→∀j∈rem,(∀k∈dF ops j,k∉rem)→∃s',okS ops Tb ef bk tq (rem.erase j) s'=true∧∀a C w,Opn T C→RW P ops ef bk tq T Q s a C→C w→doesAt P ops j a w (fun a' w'=>∃C':World→Prop,Opn T C'∧C' w'∧(j∉bk→∀w,C' w→C w)∧RW P ops ef bk tq T Q s' a' C'):=by
 intro s
 induction s with
 | nil=>intro rem hok _ _ _ j hj;simp only[okS,List.isEmpty_iff] at hok;subst hok;cases hj
 | fork ks f _=>
  intro rem hok _ _ _ j hj hr;simp only[okS,Bool.and_eq_true,List.all_eq_true,Bool.or_eq_true,List.any_eq_true,List.contains_eq_mem,decide_eq_true_eq] at hok
  have hjk:j∈ks:=by
   rcases hok.1.1 j hj with h|⟨k,hk,hkr⟩
   ·exact h
   ·exact absurd hkr (hr k hk)
  exact⟨f j,hok.1.2 j hjk,fun a C w hO h hC=>RW.first hO (h j hjk) hC⟩
 | cons i l ih=>
  intro rem hok hnd hlt hd j hj hr;simp only[okS,Bool.and_eq_true,List.all_eq_true,List.contains_eq_mem,decide_eq_true_eq,Bool.not_eq_true',decide_eq_false_iff_not] at hok;obtain⟨⟨⟨hi,hib⟩,hpair⟩,hl⟩:=hok;by_cases hij:i=j
  ·subst hij;exact⟨l,hl,fun a C w hO h hC=>RW.first hO h hC⟩
  have hji:j∈rem.erase i:=(hnd.mem_erase_iff).2 ⟨Ne.symm hij,hj⟩;have hsub:∀k,k∉rem→k∉rem.erase i:=fun k hk h=>hk (List.mem_of_mem_erase h)
  obtain⟨s1,hs1,H1⟩:=ih (rem.erase i) hl (hnd.erase i) (fun k hk=>hlt k (List.mem_of_mem_erase hk)) (fun k hk hkn m hm=>by
   by_cases hkr:k∈rem
   ·have:k=i:=Classical.byContradiction fun hne=>hkn ((hnd.mem_erase_iff).2 ⟨hne,hkr⟩);subst this;exact hsub m (hib m hm)
   ·exact hsub m (hd k hk hkr m hm)) j hji (fun k hk=>hsub k (hr k hk))
  have hrel:rel Tb i j=false:=by
   cases hr':rel Tb i j
   ·rfl
   ·obtain⟨k,hk,h'⟩:=closedT_rel hT (hlt i hi) (hlt j hj) hr';have hkl:=hr k hk;rcases h' with rfl|h'
    ·exact absurd hi hkl
    ·have hlt2:=gB hT (hlt j hj) hk;have:=hlt j hj;rw[rel_out hT hd (hlt i hi) hi k (by omega) hkl] at h';cases h'
  have hp:=hpair j hji;simp only[pairOk,hrel,Bool.false_or,Bool.and_eq_true,Bool.not_eq_true',Bool.or_eq_true] at hp;obtain⟨⟨hap,hief⟩,hjbk⟩:=hp;have hief':i∉ef:=by simpa using hief
  refine⟨.cons i s1,?_,fun a C w hO h hC=>?_⟩
  ·simp only[okS,Bool.and_eq_true,List.all_eq_true,List.contains_eq_mem,decide_eq_true_eq,Bool.not_eq_true',decide_eq_false_iff_not];refine⟨⟨⟨(hnd.mem_erase_iff).2 ⟨hij,hi⟩,fun k hk h=>hib k hk (List.mem_of_mem_erase h)⟩,fun k hk=>hpair k ?_⟩,?_⟩
   ·rw[List.erase_comm] at hk;exact List.mem_of_mem_erase hk
   ·rw[List.erase_comm];exact hs1
  obtain⟨oi,hoi,h⟩:=h
  cases hoj:ops[j]? with
  | none=>simp[apartAt,hoi,hoj] at hap
  | some oj=>
  simp only[apartAt,hoi,hoj] at hap;obtain⟨h1,h2,h3⟩:=Oper.apart_spec hap;have hsi:=Region.noSelect_spec hs
  have key : ∀ v : Value, (∀ u : Value, ∀ C' : World → Prop, (∀ w, C' w → T w) → (j ∉ bk → ∀ w, C' w → C w) → RW P ops ef bk tq T Q s1 ((a.put oj.dst u).put oi.dst v) C' → RW P ops ef bk tq T Q (.cons i s1) (a.put oj.dst u) C') →
      RW P ops ef bk tq T Q l (a.put oi.dst v) C →
      doesAt P ops j a w (fun a' w' => ∃ C' : World → Prop, Opn T C' ∧ C' w' ∧ (j ∉ bk → ∀ w, C' w → C w) ∧ RW P ops ef bk tq T Q (.cons i s1) a' C') := by
    intro v hq hr
    obtain ⟨o, ho, ih⟩ := H1 (a.put oi.dst v) C w hO hr hC
    obtain rfl : o = oj := by rw [hoj] at ho; exact (Option.some.inj ho).symm
    refine ⟨o, ho, ?_⟩
    rw [wanted_put o a oi.dst v h1, does_congr (execOp_put o (fun cs b => hsi j o cs b hoj) a oi.dst v h1)] at ih
    have comm : ∀ u, (a.put oi.dst v).put o.dst u = (a.put o.dst u).put oi.dst v := fun u => Act.put_comm a v u h2
    have fin : ∀ u w', (∃ C' : World → Prop, Opn T C' ∧ C' w' ∧ (j ∉ bk → ∀ w, C' w → C w) ∧ RW P ops ef bk tq T Q s1 ((a.put oi.dst v).put o.dst u) C') →
        ∃ C' : World → Prop, Opn T C' ∧ C' w' ∧ (j ∉ bk → ∀ w, C' w → C w) ∧ RW P ops ef bk tq T Q (.cons i s1) (a.put o.dst u) C' := fun u w' ⟨C', c0, c1, c2, c3⟩ =>
      ⟨C', c0, c1, c2, hq u C' c0.2 c2 (by rw [← comm]; exact c3)⟩
    rcases ih with ⟨hw, ih⟩ | ⟨hw, ih⟩
    · exact .inl ⟨hw, fin _ _ ih⟩
    · exact .inr ⟨hw, does_mono (fun u w' h => fin u w' h) ih⟩
  rcases h with⟨hw,h⟩|⟨hw,h⟩
  ·refine key undef (fun u C' _ _ hl=>⟨oi,hoi,.inl ⟨?_,hl⟩⟩) h;rw[wanted_put oi a oj.dst u h3];exact hw
  ·rcases h with⟨v,hq,h⟩|⟨hi',_⟩
   ·refine key v (fun u C' hcT hm hl=>⟨oi,hoi,.inr ⟨?_,.inl ⟨v,?_,hl⟩⟩⟩) h
    ·rw[wanted_put oi a oj.dst u h3];exact hw
    ·intro w1 hw1;rw[does_congr (execOp_put oi (fun cs b=>hsi i oi cs b hoi) a oj.dst u h3)];refine hq w1 ?_;rcases hw1 with hw1|hw1
     ·exact .inl hw1
     ·rcases hw1 with hw1|hw1
      ·exact .inr (.inl hw1)
      rcases hjbk with(hb|hb)|hb
      ·exact .inr (.inr (hm (by simpa using hb) w1 hw1))
      ·exact .inl (by simpa[pureAt,hoi] using hb)
      ·exact .inr (.inl ⟨by simpa using hb,hcT w1 hw1⟩)
   ·exact absurd hi' hief'
theorem RW.rest{Tb:Array Nat}(hs:Region.noSelect ops=true)(hT:hZ ops Tb=true):∀(n:Nat) (s:Sq) (rem:List Nat) (listed:Array Bool) (a:Act) (C:World→Prop) (w:World),rem.length=n→
  listed.size=ops.size→rem.Nodup→(∀j,j<ops.size→(listed.getD j true=false↔j∈rem))→(∀j∈rem,j<ops.size)→(∀j,j<ops.size→j∉rem→∀k∈dF ops j,k∉rem)→
  okS ops Tb ef bk tq rem s=true→Opn T C→RW P ops ef bk tq T Q s a C→C w→wpAnyIn (FnR ro) 0 P .any ops Q n listed a w
 | n,s,rem,listed,a,C,w,hn,hsz,hnd,hl,hlt,hd,hok,hO,h,hC=>by
  have hready:∀j,j∈Region.ready .any ops listed↔j∈rem∧∀k∈dF ops j,k∉rem:=by
   intro j
   rw[mem_ready]
   constructor
   ·rintro⟨h0,o,ho,hall⟩
    have hj:j<ops.size:=(Array.getElem?_eq_some_iff.1 ho).1
    refine⟨(hl j hj).1 h0,fun k hk hkl=>?_⟩
    obtain⟨e,he,hb,rfl⟩:=(mem_boundAt ho).1 hk
    have h1:=hall e he hb
    have h2:=(hl e.on (hlt _ hkl)).2 hkl
    have h3:=hlt _ hkl
    have:e.on<listed.size:=by omega
    simp[this] at h1 h2
    rw[h1] at h2;cases h2
   ·rintro⟨hj,hk⟩
    have hj':=hlt j hj
    refine⟨(hl j hj').2 hj,ops[j],by simp[hj'],fun e he hb=>?_⟩
    have hmem:e.on∈dF ops j:=(mem_boundAt (by simp[hj'])).2 ⟨e,he,hb,rfl⟩
    have hlt2:=gB hT hj' hmem
    have hnl:=hk _ hmem
    have h2: ¬listed.getD e.on true=false:=fun h=>hnl ((hl e.on (by omega)).1 h)
    have:e.on<listed.size:=by omega
    simp[this] at h2 ⊢
    exact h2
  cases n with
  | zero=>
   obtain rfl:rem=[]:=List.length_eq_zero_iff.1 hn
   refine⟨?_,?_⟩
   ·refine List.eq_nil_iff_forall_not_mem.2 fun j hj=>?_
    have:=((hready j).1 hj).1
    cases this
   ·cases s with
    | nil=>exact h w hC
    | cons i l=>simp[okS] at hok
    | fork ks f=>simp[okS] at hok
  | succ n=>
   refine⟨fun h0=>?_,fun j hj=>?_⟩
   ·
    have hex:∀m,(∃j∈rem,j≤m)→∃j∈rem,∀k∈dF ops j,k∉rem:=by
     intro m
     induction m with
     | zero=>
      rintro⟨j,hj,hjm⟩
      exact⟨j,hj,fun k hk _=>by have:=gB hT (hlt j hj) hk;omega⟩
     | succ m ihm=>
      rintro⟨j,hj,hjm⟩
      by_cases hk:∃k∈dF ops j,k∈rem
      ·obtain⟨k,hk,hkr⟩:=hk
       have:=gB hT (hlt j hj) hk
       exact ihm ⟨k,hkr,by omega⟩
      ·exact⟨j,hj,fun k hkb hkr=>hk ⟨k,hkb,hkr⟩⟩
    cases rem with
    | nil=>simp at hn
    | cons i t=>
     obtain⟨j,hj,hjb⟩:=hex i ⟨i,by simp,Nat.le_refl _⟩
     have:j∈Region.ready .any ops listed:=(hready j).2 ⟨hj,hjb⟩
     rw[h0] at this;cases this
   ·obtain⟨hjl,hjk⟩:=(hready j).1 hj
    have hj':=hlt j hjl
    obtain⟨s',hok',H⟩:=RW.move (P:=P) (Q:=Q) hs hT s rem hok hnd hlt hd j hjl hjk
    refine wpOpIn_mono ?_ (wpOp_of_doesAt (H a C w hO h hC))
    rintro a' w' ⟨C',hO',hC',_,h'⟩
    refine RW.rest hs hT n s' (rem.erase j) (listed.setIfInBounds j true) a' C' w' (by rw[List.length_erase_of_mem hjl,hn];rfl) (by simpa using hsz) (hnd.erase j) ?_ (fun k hk=>hlt k (List.mem_of_mem_erase hk)) ?_ hok' hO' h' hC'
    ·intro k hk
     rw[hnd.mem_erase_iff]
     by_cases hkj:k=j
     ·subst hkj;simp[hsz,hk]
     ·rw[getD_set_ne true (Ne.symm hkj),hl k hk];simp[hkj]
    ·intro k hk hkn m hmk hmm
     have hmm':=List.mem_of_mem_erase hmm
     by_cases hkj:k=j
     ·subst hkj;exact hjk m hmk hmm'
     ·exact hd k hk (fun hkl=>hkn ((hnd.mem_erase_iff).2 ⟨hkj,hkl⟩)) m hmk hmm'
 termination_by n=>n
theorem RW.any{s:Sq}{a:Act}{C:World→Prop}{w:World}(hc:chk ops s ef bk tq=true)(hO:Opn T C)(h:RW P ops ef bk tq T Q s a C)(hC:C w):wpAnyIn (FnR ro) 0 P .any ops Q ops.size (Array.replicate ops.size false) a w:=by simp only[chk,Bool.and_eq_true] at hc;obtain⟨⟨hT,hok⟩,hs⟩:=hc;exact RW.rest (P:=P) (Q:=Q) (ef:=ef) (bk:=bk) hs hT ops.size s (List.range ops.size) (Array.replicate ops.size false) a C w (by simp) (by simp) List.nodup_range (fun j hj=>by simp[hj]) (fun j hj=>by simpa using hj) (fun j hj hn=>absurd (by simpa using hj) hn) hok hO h hC
end Go.PK
namespace Go.PK
abbrev Env:=List (Nat×Value)
def Env.get:Env→Nat→Option Value
 | [],_=>none
 | (k,v)::r,n=>bif Nat.beq k n then some v else Env.get r n
def Env.ev(E:Env):Operand→Option Value
 | .tmp t=>E.get t
 | .const v=>some v
 | .global g=>some (.pointer (some ⟨g,0,none⟩))
 | .func f=>some (.func (.func f) #[] #[])
def evs(E:Env):List Operand→Option (List Value)
 | []=>some []
 | x::r=>match E.ev x,evs E r with
  | some v,some vs=>some (v::vs)
  | _,_=>none
def b7{α:Type}:List α→Nat→Option α
 | [],_=>none
 | x::_,0=>some x
 | _::l,n+1=>b7 l n
theorem eQ{α:Type}:∀(l:List α) (i:Nat),b7 l i=l[i]?
 | [],_=>by simp[b7]
 | _::_,0=>by simp[b7]
 | _::l,n+1=>by simp[b7,eQ l n]
structure Fm where
 n:Nat
 ds:List Deferred
 ro:Option Nat
structure Ag(N:Fm)(a:Act)(E:Env):Prop where
 d:a.defers=N.ds
 n:a.tmps.size=N.n
 t:∀k v,E.get k=some v→a.tmps[k]?=some v
theorem Ag.ev{N:Fm}{a:Act}{E:Env}(h:Ag N a E){x:Operand}{v:Value}(hx:E.ev x=some v):a.eval x=v:=by
 cases x with
 | tmp t=>simp[Act.eval,h.t t v hx]
 | const u=>exact Option.some.inj hx
 | global g=>exact Option.some.inj hx
 | func f=>exact Option.some.inj hx
theorem Ag.evs{N:Fm}{a:Act}{E:Env}(h:Ag N a E):∀ {xs:List Operand} {vs:List Value},evs E xs=some vs→xs.map a.eval=vs
 | [],vs,hx=>by cases hx;rfl
 | x::r,vs,hx=>by
  unfold PK.evs at hx
  split at hx
  ·rename_i v vs' h1 h2
   cases hx
   rw[List.map_cons,h.ev h1,h.evs h2]
  ·cases hx
theorem Ag.put{N:Fm}{a:Act}{E:Env}(h:Ag N a E){d:Nat}(hd:Nat.blt d N.n=true)(v:Value):Ag N (a.put (some d) v) ((d,v)::E):=by
 have hlt:d<a.tmps.size:=by rw[h.n];simpa using hd
 refine⟨h.d,by simp[Act.put,h.n],fun k u hk=>?_⟩;unfold Env.get at hk;cases he:Nat.beq d k
 ·simp only[he,cond_false] at hk;have hne:d≠k:=by intro e;subst e;simp at he
  simp only[Act.put];rw[Array.getElem?_setIfInBounds_ne hne];exact h.t k u hk
 ·simp only[he,cond_true,Option.some.injEq] at hk;have:d=k:=by simpa using he
  subst this;subst hk;simp[Act.put,hlt]
inductive Sub(E:Env):Env→Prop
 | nil:Sub E []
 | cons {k:Nat} {v:Value} {E':Env} (h:E.get k=some v) (r:Sub E E'):Sub E ((k,v)::E')
theorem Sub.get{E E':Env}(h:Sub E E'):∀k v,E'.get k=some v→E.get k=some v:=by
 induction h with
 | nil=>intro k v hk;cases hk
 | cons h r ih=>
  rename_i k0 v0 E';intro k v hk;unfold Env.get at hk;cases he:Nat.beq k0 k
  ·simp only[he,cond_false] at hk;exact ih k v hk
  ·simp only[he,cond_true,Option.some.injEq] at hk;have:k0=k:=by simpa using he
   subst this;subst hk;exact h
theorem Ag.sub{N:Fm}{a:Act}{E E':Env}(h:Ag N a E)(s:Sub E E'):Ag N a E':=⟨h.d,h.n,fun k v hk=>h.t k v (s.get k v hk)⟩
structure It where
 bs:List Nat
 A:World→Prop
 fr:∀w w',(∀b∈bs,w'.heap[b]?=w.heap[b]?)→A w→A w'
 lt:∀w,A w→∀b∈bs,b<w.heap.size
theorem mQ{x:It}{l:List It}(h:x∈l:=by repeat (first|exact List.Mem.head _|apply List.Mem.tail)):x∈l:=h
def bss(H:List It):List Nat:=H.flatMap It.bs
@[simp] theorem bss_nil:bss []=[]:=rfl
@[simp] theorem bM(x:It)(H:List It):bss (x::H)=x.bs++bss H:=rfl
@[simp] theorem cY(H H':List It):bss (H++H')=bss H++bss H':=by simp[bss]
theorem mem_bss{H:List It}{b:Nat}:b∈bss H↔∃x∈H,b∈x.bs:=by simp[bss]
def cel(b:Nat)(cs:List Value)(T:TypeId):It where
 bs:=[b]
 A w:=w.heap[b]?=some (.cells cs.toArray T (0,0))
 fr w w' h hA:=by rw[h b (by simp)];exact hA
 lt w hA c hc:=by
  have:c=b:=by simpa using hc
  subst this
  exact(Array.getElem?_eq_some_iff.1 hA).1
def blk(b:Nat)(o:Obj):It where
 bs:=[b]
 A w:=w.heap[b]?=some o
 fr w w' h hA:=by rw[h b (by simp)];exact hA
 lt w hA c hc:=by
  have:c=b:=by simpa using hc
  subst this
  exact(Array.getElem?_eq_some_iff.1 hA).1
structure Sat(I H:List It)(w:World):Prop where
 i:∀x∈I,x.A w
 h:∀x∈H,x.A w
 nd:(bss H).Nodup
 dj:∀b∈bss I,b∉bss H
structure Cls(w0:World)(S:List Nat)(I H:List It)(w:World):Prop where
 k:Keeps S w0 w
 s:Sat I H w
 own:∀b∈bss H,b<w0.heap.size→b∈S
theorem It.grow{S:List Nat}{x:It}{w w':World}(h:x.A w)(hg:Keeps S w w')(hS:∀b∈x.bs,b∉S):x.A w':=
 x.fr w w' (fun b hb=>hg.block b (x.lt w h b hb) (hS b hb)) h
theorem Sat.grow{I H:List It}{w w':World}(h:Sat I H w)(hg:Grow w w'):Sat I H w':=
 ⟨fun x hx=>It.grow (h.i x hx) hg (by simp),fun x hx=>It.grow (h.h x hx) hg (by simp),h.nd,h.dj⟩
theorem Cls.open(w0:World)(S:List Nat)(I H:List It):Open (Cls w0 S I H):=fun _ _ h hg=>⟨h.k.trans (hg.mono (by simp)),h.s.grow hg,h.own⟩
inductive Les:List It→List It→Prop
 | nil:Les [] []
 | keep {x:It} {H H':List It} (h:Les H H'):Les (x::H) (x::H')
 | drop {x:It} {H H':List It} (h:Les H H'):Les (x::H) H'
theorem Les.mem{H H':List It}(h:Les H H'):∀x∈H',x∈H:=by
 induction h with
 | nil=>simp
 | keep h ih => intro x hx; rcases List.mem_cons.1 hx with rfl | hx; · simp
                · simp [ih x hx]
 | drop h ih=>intro x hx;simp[ih x hx]
theorem Les.sublist{H H':List It}(h:Les H H'):(bss H').Sublist (bss H):=by
 induction h with
 | nil=>exact List.Sublist.refl _
 | keep h ih=>simp only[bM];exact ih.append_left _
 | drop h ih=>simp only[bM];exact ih.trans (List.sublist_append_right _ _)
theorem Les.refl:∀H:List It,Les H H
 | []=>.nil
 | _::H=>.keep (Les.refl H)
theorem Sat.les{I H I' H':List It}{w:World}(h:Sat I H w)(hi:∀x∈I',x∈I)(hh:Les H H'):Sat I' H' w:=
 ⟨fun x hx=>h.i x (hi x hx),fun x hx=>h.h x (hh.mem x hx),h.nd.sublist hh.sublist,fun b hb hb'=>by
  obtain⟨x,hx,hbx⟩:=mem_bss.1 hb
  exact h.dj b (mem_bss.2 ⟨x,hi x hx,hbx⟩) (hh.sublist.subset hb')⟩
theorem Cls.les{w0:World}{S:List Nat}{I H I' H':List It}{w:World}(h:Cls w0 S I H w)(hi:∀x∈I',x∈I)(hh:Les H H'):Cls w0 S I' H' w:=
 ⟨h.k,h.s.les hi hh,fun b hb=>h.own b (hh.sublist.subset hb)⟩
def NQ(Q:Exit→Act→World→Prop)(N:Fm)(E:Env)(w0:World)(S:List Nat)(I H:List It):Prop:=∀a w,Ag N a E→Cls w0 S I H w→Q .normal a w
def XQ(Q:Exit→Act→World→Prop)(id:Nat)(N:Fm)(E:Env)(w0:World)(S:List Nat)(I H:List It):Prop:=∀a w,Ag N a E→Cls w0 S I H w→Q (.exit id) a w
def RQ(Q:Exit→Act→World→Prop)(N:Fm)(E:Env)(w0:World)(S:List Nat)(I H:List It):Prop:=∀a w,Ag N a E→Cls w0 S I H w→Q .ret a w
def CW(P:Program)(c:Code)(Q:Exit→Act→World→Prop)(N:Fm)(E:Env)(w0:World)(S:List Nat)(I H:List It):Prop:=
 ∀a w,Ag N a E→Cls w0 S I H w→c.wpIn (FnR N.ro) 0 P Q a w
structure Tq where
 l:List Nat
 T:List It
def Tq.W(t:Tq)(w:World):Prop:=∀x∈t.T,x.A w
def RL(P:Program)(L:List Oper)(ef bk:List Nat)(tq:Tq)(Q:Exit→Act→World→Prop)(l:Sq)(N:Fm)(E:Env)(w0:World)(S:List Nat)(I H:List It):Prop:=
 (∀x∈tq.T,x∈I)→∀a,Ag N a E→RW P L.toArray ef bk tq.l tq.W Q l a (Cls w0 S I H)
theorem Cls.opn{t:Tq}{w0:World}{S:List Nat}{I H:List It}(h:∀x∈t.T,x∈I):Opn t.W (Cls w0 S I H):=⟨Cls.open w0 S I H,fun _ hw x hx=>hw.s.i x (h x hx)⟩
section
variable {P:Program} {Q:Exit→Act→World→Prop} {N:Fm} {E:Env} {w0:World} {S:List Nat} {I H:List It} {K:Act→World→Prop} {id id':Nat} {c x y:Code}
theorem NQ.seq(h:CW P y Q N E w0 S I H):NQ (Exit.then (fun a w=>y.wpIn (FnR N.ro) 0 P Q a w) Q) N E w0 S I H:=h
theorem NQ.block(h:NQ Q N E w0 S I H):NQ (Exit.inBlock id Q) N E w0 S I H:=h
theorem XQ.seq(h:XQ Q id N E w0 S I H):XQ (Exit.then K Q) id N E w0 S I H:=h
theorem XQ.hit(h:NQ Q N E w0 S I H):XQ (Exit.inBlock id Q) id N E w0 S I H:=fun a w ha hw=>by simpa[Exit.inBlock] using h a w ha hw
theorem XQ.miss(hne:Nat.beq id' id=false)(h:XQ Q id' N E w0 S I H):XQ (Exit.inBlock id Q) id' N E w0 S I H:=fun a w ha hw=>by
 have:id'≠id:=by intro e;subst e;simp at hne
 simpa[Exit.inBlock,this] using h a w ha hw
theorem RQ.seq(h:RQ Q N E w0 S I H):RQ (Exit.then K Q) N E w0 S I H:=h
theorem RQ.block(h:RQ Q N E w0 S I H):RQ (Exit.inBlock id Q) N E w0 S I H:=h
theorem CW.seq(h:CW P x (Exit.then (fun a w=>y.wpIn (FnR N.ro) 0 P Q a w) Q) N E w0 S I H):CW P (.seq x y) Q N E w0 S I H:=fun a w ha hw=>wpIn_seq (h a w ha hw)
theorem CW.block(h:CW P c (Exit.inBlock id Q) N E w0 S I H):CW P (.block id c) Q N E w0 S I H:=fun a w ha hw=>wpIn_block (h a w ha hw)
theorem CW.skip(h:NQ Q N E w0 S I H):CW P .skip Q N E w0 S I H:=fun a w ha hw=>wpIn_skip (h a w ha hw)
theorem CW.label{l:Nat}(h:NQ Q N E w0 S I H):CW P (.label l) Q N E w0 S I H:=fun a w ha hw=>wpIn_label (h a w ha hw)
theorem CW.exit(h:XQ Q id N E w0 S I H):CW P (.exit id) Q N E w0 S I H:=fun a w ha hw=>wpIn_exit (h a w ha hw)
theorem CW.ret(h:RQ Q N E w0 S I H):CW P .ret Q N E w0 S I H:=fun a w ha hw=>wpIn_ret (h a w ha hw)
theorem CW.cond{o:Operand}{t:Bool}(ho:E.ev o=some (.bool t):=by exact rfl)(h1:t=true→CW P x Q N E w0 S I H)(h2:t=false→CW P y Q N E w0 S I H):CW P (.cond o x y) Q N E w0 S I H:=
 fun a w ha hw=>wpIn_cond_split (ha.ev ho) (fun h=>h1 h a w ha hw) (fun h=>h2 h a w ha hw)
theorem aI{o:Operand}{t:Bool}(ho:E.ev o=some (.bool t):=by exact rfl)(ht:t=true:=by exact rfl)(h:CW P x Q N E w0 S I H):CW P (.cond o x y) Q N E w0 S I H:=
 fun a w ha hw=>wpIn_cond_true (ht▸ha.ev ho) (h a w ha hw)
theorem ag{o:Operand}{t:Bool}(ho:E.ev o=some (.bool t):=by exact rfl)(ht:t=false:=by exact rfl)(h:CW P y Q N E w0 S I H):CW P (.cond o x y) Q N E w0 S I H:=
 fun a w ha hw=>wpIn_cond_false (ht▸ha.ev ho) (h a w ha hw)
theorem CW.only{E':Env}(s:Sub E E')(h:CW P c Q N E' w0 S I H):CW P c Q N E w0 S I H:=fun a w ha hw=>h a w (ha.sub s) hw
theorem CW.les{I' H':List It}(hi:∀x∈I',x∈I)(hh:Les H H')(h:CW P c Q N E w0 S I' H'):CW P c Q N E w0 S I H:=fun a w ha hw=>h a w ha (hw.les hi hh)
theorem aR{p:Prop}(hp:∀w,Cls w0 S I H w→p)(h:p→CW P c Q N E w0 S I H):CW P c Q N E w0 S I H:=fun a w ha hw=>h (hp w hw) a w ha hw
theorem CW.region{rid:Nat}{L:List Oper}{ef bk:List Nat}(h:RL P L ef bk ⟨[],[]⟩ Q (Sq.of (List.range L.length)) N E w0 S I H):CW P (.region rid L.toArray false) Q N E w0 S I H:=fun a w ha hw=>
 wpIn_region (by simpa using RW.text _ a _ w (Cls.opn (t:=⟨[],[]⟩) (by simp)) (h (by simp) a ha) hw)
theorem ae{rid:Nat}{L:List Oper}(π:Sq)(ef bk tl:List Nat)(hm:P.follows .mixedOrders=true:=by kernel_rfl)(hc:chk L.toArray π ef bk tl=true:=by kernel_rfl)(h:RL P L ef bk ⟨tl,I⟩ Q π N E w0 S I H):
  CW P (.region rid L.toArray true) Q N E w0 S I H:=fun a _ ha hw=>
 wpIn_region_any hm (RW.any hc (Cls.opn (t:=⟨tl,I⟩) (fun _ h=>h)) (h (fun _ h=>h) a ha) (Cls.open w0 S I H _ _ hw (Keeps.drew _ _ _ (Nat.le_succ _))))
theorem CW.loop{γ:Type}(good:γ→Prop)(Eg:γ→Env)(Ig Hg:γ→List It)(μ:γ→Nat)(g0:γ)(h0:good g0:=by omega)(s:Sub E (Eg g0))(hc:∀w,Cls w0 S I H w→Cls w0 S (Ig g0) (Hg g0) w:=by exact wE)(round:∀g,good g→CW P c (Exit.then (fun a w=>∃g',good g'∧μ g' < μ g∧Ag N a (Eg g')∧Cls w0 S (Ig g') (Hg g') w) Q) N (Eg g) w0 S (Ig g) (Hg g)):CW P (.loop c) Q N E w0 S I H:=by
 intro a w ha hw
 have key:∀m g a w,μ g<m→good g→Ag N a (Eg g)→Cls w0 S (Ig g) (Hg g) w→Code.roundsIn (FnR N.ro) 0 P c Q m a w:=by
  intro m
  induction m with
  | zero=>intro g a w h;exact absurd h (Nat.not_lt_zero _)
  | succ m ih=>
   intro g a w hm hg ha hw;refine wpIn_mono (round g hg a w ha hw) ?_;intro e a' w' hq
   cases e with
   | normal=>obtain⟨g',h1,h2,h3,h4⟩:=hq;exact ih g' a' w' (by omega) h1 h3 h4
   | exit id=>exact hq
   | goto l=>exact hq
   | ret=>exact hq
   | panic ch=>exact hq
   | outgrown=>exact hq
 exact wpIn_loop_rounds (μ g0+1) (key _ g0 a w (Nat.lt_succ_self _) h0 (ha.sub s) (hc w hw))
theorem NQ.round{γ:Type}{good:γ→Prop}{Eg:γ→Env}{Ig Hg:γ→List It}{μ:γ→Nat}{g:γ}(g':γ)(h:good g')(hμ:μ g' < μ g)(s:Sub E (Eg g'))(hc:∀w,Cls w0 S I H w→Cls w0 S (Ig g') (Hg g') w):
  NQ (Exit.then (fun a w=>∃g',good g'∧μ g' < μ g∧Ag N a (Eg g')∧Cls w0 S (Ig g') (Hg g') w) Q) N E w0 S I H:=fun _ _ ha hw=>⟨g',h,hμ,ha.sub s,hc _ hw⟩
end
def aG(L:List Oper)(E:Env)(o:Oper):Bool:=
 match o.guard with
 | none=>true
 | some (j,want)=>match b7 L j with
  | some oj=>match oj.dst with
   | some dj=>match E.get dj with
    | some (.bool b)=>b==want
    | _=>false
   | none=>false
  | none=>false
def unwants(L:List Oper)(E:Env)(o:Oper):Bool:=
 match o.guard with
 | none=>false
 | some (j,want)=>match b7 L j with
  | some oj=>match oj.dst with
   | some dj=>match E.get dj with
    | some (.bool b)=>b !=want
    | some (.tuple _)=>true
    | _=>false
   | none=>false
  | none=>false
theorem gC{L:List Oper}{E:Env}{o:Oper}{N:Fm}{a:Act}(h:aG L E o=true)(ha:Ag N a E):Region.wanted o (yielded L.toArray a.tmps)=true:=by
 unfold aG at h;unfold Region.wanted;split at h
 ·rename_i hg;rw[hg]
 ·rename_i j want hg;rw[hg];split at h
  ·rename_i oj hj;split at h
   ·rename_i dj hd;split at h
    ·rename_i b hb;have hb':=ha.t _ _ hb;simp only[beq_iff_eq] at h ⊢;rw[eQ] at hj;simp[yielded,hj,hd,hb',h]
    ·cases h
   ·cases h
  ·cases h
theorem unwants_spec{L:List Oper}{E:Env}{o:Oper}{N:Fm}{a:Act}(h:unwants L E o=true)(ha:Ag N a E):Region.wanted o (yielded L.toArray a.tmps)=false:=by
 unfold unwants at h;unfold Region.wanted;split at h
 ·cases h
 ·rename_i j want hg;rw[hg];split at h
  ·rename_i oj hj;split at h
   ·rename_i dj hd;split at h
    ·rename_i b hb;have hb':=ha.t _ _ hb;rw[eQ] at hj;simp only[yielded,List.getElem?_toArray,hj,Option.bind_some,hd,hb'];simpa using h
    ·rename_i hb;have hb':=ha.t _ _ hb;rw[eQ] at hj;simp[yielded,List.getElem?_toArray,hj,hd,hb']
    ·cases h
   ·cases h
  ·cases h
section
variable {P:Program} {L:List Oper} {ef bk:List Nat} {tq:Tq} {Q:Exit→Act→World→Prop} {N:Fm} {E:Env} {w0:World} {S:List Nat} {I H:List It} {i:Nat} {l:Sq}
theorem RL.nil(h:NQ Q N E w0 S I H):RL P L ef bk tq Q .nil N E w0 S I H:=fun _ a ha w hw=>h a w ha hw
def AllK(p:Nat→Prop):List Nat→Prop
 | []=>True
 | k::r=>p k∧AllK p r
theorem AllK.spec{p:Nat→Prop}:∀ {ks:List Nat},AllK p ks→∀k∈ks,p k
 | [],_,k,h=>by cases h
 | a::r,hp,k,h=>by
  rcases List.mem_cons.1 h with rfl|h
  ·exact hp.1
  ·exact AllK.spec hp.2 k h
theorem RL.fork{ks:List Nat}{f:Nat→Sq}(h:AllK (fun k=>RL P L ef bk tq Q (.cons k (f k)) N E w0 S I H) ks):RL P L ef bk tq Q (.fork ks f) N E w0 S I H:=fun hT a ha k hk=>AllK.spec h k hk hT a ha
theorem RL.only{E':Env}(s:Sub E E')(h:RL P L ef bk tq Q l N E' w0 S I H):RL P L ef bk tq Q l N E w0 S I H:=fun hT a ha=>h hT a (ha.sub s)
theorem RL.part{d:Nat}{b:Bool}(hd:E.get d=some (.bool b))(h1:b=true→RL P L ef bk tq Q l N ((d,.bool true)::E) w0 S I H)(h2:b=false→RL P L ef bk tq Q l N ((d,.bool false)::E) w0 S I H):RL P L ef bk tq Q l N E w0 S I H:=by
 intro hT a ha
 have key:∀b',b=b'→Ag N a ((d,.bool b')::E):=by
  rintro _ rfl;refine⟨ha.d,ha.n,fun k v hk=>?_⟩;unfold Env.get at hk;cases he:Nat.beq d k
  ·simp only[he,cond_false] at hk;exact ha.t k v hk
  ·simp only[he,cond_true,Option.some.injEq] at hk;have:d=k:=by simpa using he
   subst this;subst hk;exact ha.t d _ hd
 cases b
 ·exact h2 rfl hT a (key _ rfl)
 ·exact h1 rfl hT a (key _ rfl)
theorem au{d dp:Nat}{b c:Bool}{l':Sq}{E':Env}(hd:E.get d=some (.bool b))(s:Sub E E')
  (h2:b=false→(∀E1,Sub E1 ((dp,.bool c)::E')→RL P L ef bk tq Q l' N E1 w0 S I H)→RL P L ef bk tq Q l N ((d,.bool false)::E) w0 S I H)
  (h1:b=true→(∀E1,Sub E1 ((dp,.bool true)::E')→RL P L ef bk tq Q l' N E1 w0 S I H)→RL P L ef bk tq Q l N ((d,.bool true)::E) w0 S I H)
  (k:RL P L ef bk tq Q l' N ((dp,.bool (b||c))::E') w0 S I H):RL P L ef bk tq Q l N E w0 S I H:=
 RL.part hd (fun hb=>h1 hb fun E1 s1=>by subst hb;exact RL.only s1 k) (fun hb=>h2 hb fun E1 s1=>by subst hb;exact RL.only s1 k)
theorem aL{d dp:Nat}{b c:Bool}{l':Sq}{E':Env}(hd:E.get d=some (.bool b))(s:Sub E E')
  (h1:b=true→(∀E1,Sub E1 ((dp,.bool c)::E')→RL P L ef bk tq Q l' N E1 w0 S I H)→RL P L ef bk tq Q l N ((d,.bool true)::E) w0 S I H)
  (h2:b=false→(∀E1,Sub E1 ((dp,.bool false)::E')→RL P L ef bk tq Q l' N E1 w0 S I H)→RL P L ef bk tq Q l N ((d,.bool false)::E) w0 S I H)
  (k:RL P L ef bk tq Q l' N ((dp,.bool (b&&c))::E') w0 S I H):RL P L ef bk tq Q l N E w0 S I H:=
 RL.part hd (fun hb=>h1 hb fun E1 s1=>by subst hb;exact RL.only s1 k) (fun hb=>h2 hb fun E1 s1=>by subst hb;exact RL.only s1 k)
theorem av{d:Nat}{v v':Value}(hd:E.get d=some v:=by exact rfl)(hv:v=v')(h:RL P L ef bk tq Q l N ((d,v')::E) w0 S I H):RL P L ef bk tq Q l N E w0 S I H:=by
 subst hv;intro hT a ha;refine h hT a ⟨ha.d,ha.n,fun k u hk=>?_⟩;unfold Env.get at hk;cases he:Nat.beq d k
 ·simp only[he,cond_false] at hk;exact ha.t k u hk
 ·simp only[he,cond_true,Option.some.injEq] at hk;have:d=k:=by simpa using he
  subst this;subst hk;exact ha.t d _ hd
theorem RL.skip{o:Oper}{d:Nat}(ho:b7 L i=some o)(hw:unwants L E o=true)(hd:o.dst=some d)(hN:Nat.blt d N.n=true)(h:RL P L ef bk tq Q l N ((d,undef)::E) w0 S I H):
  RL P L ef bk tq Q (.cons i l) N E w0 S I H:=fun hT a ha=>
 ⟨o,by rw[List.getElem?_toArray,←eQ];exact ho,.inl ⟨unwants_spec hw ha,by rw[hd];exact h hT _ (ha.put hN _)⟩⟩
theorem RL.quiet{o:Oper}{d:Nat}{v:Value}(ho:b7 L i=some o)(hw:aG L E o=true)(hd:o.dst=some d)(hN:Nat.blt d N.n=true)
  (hv:∀a w,Ag N a E→Cls w0 S I H w→dD P o a w (fun u w'=>u=v∧Grow w w')) (h:RL P L ef bk tq Q l N ((d,v)::E) w0 S I H) (hp:pureOp o.op=false:=by rfl) (ht:tq.l.contains i=false:=by rfl):RL P L ef bk tq Q (.cons i l) N E w0 S I H:=fun hT a ha=>
 ⟨o,by rw[List.getElem?_toArray,←eQ];exact ho,.inr ⟨gC hw ha,.inl ⟨v,fun w hC=>hv a w ha ((hC.resolve_left (by simp[hp])).resolve_left (fun h=>by simp at ht;exact ht h.1)),by rw[hd];exact h hT _ (ha.put hN _)⟩⟩⟩
theorem RL.toldQ{o:Oper}{d:Nat}{v:Value}(ho:b7 L i=some o)(hw:aG L E o=true)(hd:o.dst=some d)(hN:Nat.blt d N.n=true)
  (hv:∀a w,Ag N a E→(∀x∈tq.T,x.A w)→dD P o a w (fun u w'=>u=v∧Grow w w')) (h:RL P L ef bk tq Q l N ((d,v)::E) w0 S I H) (hp:pureOp o.op=false:=by rfl):RL P L ef bk tq Q (.cons i l) N E w0 S I H:=fun hT a ha=>
 ⟨o,by rw[List.getElem?_toArray,←eQ];exact ho,.inr ⟨gC hw ha,.inl ⟨v,fun w hC=>hv a w ha ((hC.resolve_left (by simp[hp])).elim (·.2) (fun h x hx=>h.s.i x (hT x hx))),by rw[hd];exact h hT _ (ha.put hN _)⟩⟩⟩
theorem RL.toldV{o:Oper}{d:Nat}{v:Value}(ho:b7 L i=some o)(hw:aG L E o=true)(hd:o.dst=some d)(hN:Nat.blt d N.n=true)
  (hv:∀a w,Ag N a E→(∀x∈tq.T,x.A w)→(execOp a.eval o).run P w=.ok (.value v) w) (h:RL P L ef bk tq Q l N ((d,v)::E) w0 S I H) (hp:pureOp o.op=false:=by rfl):RL P L ef bk tq Q (.cons i l) N E w0 S I H:=
 RL.toldQ ho hw hd hN (fun a w ha hC=>by unfold dD;rw[hv a w ha hC];exact⟨rfl,Keeps.refl _ _⟩) h hp
theorem bN{o:Oper}{d:Nat}{v:Value}(ho:b7 L i=some o)(hw:aG L E o=true)(hd:o.dst=some d)(hN:Nat.blt d N.n=true)
  (hv:∀a w,Ag N a E→(execOp a.eval o).run P w=.ok (.value v) w) (h:RL P L ef bk tq Q l N ((d,v)::E) w0 S I H):RL P L ef bk tq Q (.cons i l) N E w0 S I H:=fun hT a ha=>
 ⟨o,by rw[List.getElem?_toArray,←eQ];exact ho,.inr ⟨gC hw ha,.inl ⟨v,fun w _=>by unfold dD;rw[hv a w ha];exact⟨rfl,Keeps.refl _ _⟩,by rw[hd];exact h hT _ (ha.put hN _)⟩⟩⟩
theorem RL.val{o:Oper}{d:Nat}{v:Value}(ho:b7 L i=some o)(hw:aG L E o=true)(hd:o.dst=some d)(hN:Nat.blt d N.n=true)
  (hv:∀a w,Ag N a E→Cls w0 S I H w→(execOp a.eval o).run P w=.ok (.value v) w) (h:RL P L ef bk tq Q l N ((d,v)::E) w0 S I H) (hp:pureOp o.op=false:=by rfl) (ht:tq.l.contains i=false:=by rfl):RL P L ef bk tq Q (.cons i l) N E w0 S I H:=
 RL.quiet ho hw hd hN (fun a w ha hC=>by unfold dD;rw[hv a w ha hC];exact⟨rfl,Keeps.refl _ _⟩) h hp ht
theorem eZ{o:Oper}{d:Nat}(ho:b7 L i=some o)(hw:aG L E o=true)(hi:ef.contains i=true)(hd:o.dst=some d)(hN:Nat.blt d N.n=true)
  (hv:∀a w,Ag N a E→Cls w0 S I H w→dD P o a w (fun v w'=>∃I' H',Cls w0 S I' H' w'∧(∀x∈I,x∈I')∧(bk.contains i=false→∀w,Cls w0 S I' H' w→Cls w0 S I H w)∧RL P L ef bk tq Q l N ((d,v)::E) w0 S I' H')):
  RL P L ef bk tq Q (.cons i l) N E w0 S I H:=fun hT a ha=>
 ⟨o,by rw[List.getElem?_toArray,←eQ];exact ho,.inr ⟨gC hw ha,.inr ⟨by simpa using hi,fun w hC=>does_mono (fun v w' ⟨I',H',h1,hs,h2,h3⟩=>
  have hT':=fun x hx=>hs x (hT x hx)
  ⟨Cls w0 S I' H',Cls.opn hT',h1,fun hb=>h2 (by simpa using hb),by rw[hd];exact h3 hT' _ (ha.put hN _)⟩) (hv a w ha hC)⟩⟩⟩
theorem RL.eff0{o:Oper}(ho:b7 L i=some o)(hw:aG L E o=true)(hi:ef.contains i=true)(hd:o.dst=none)
  (hv:∀a w,Ag N a E→Cls w0 S I H w→dD P o a w (fun _ w'=>∃I' H',Cls w0 S I' H' w'∧(∀x∈I,x∈I')∧(bk.contains i=false→∀w,Cls w0 S I' H' w→Cls w0 S I H w)∧RL P L ef bk tq Q l N E w0 S I' H')):
  RL P L ef bk tq Q (.cons i l) N E w0 S I H:=fun hT a ha=>
 ⟨o,by rw[List.getElem?_toArray,←eQ];exact ho,.inr ⟨gC hw ha,.inr ⟨by simpa using hi,fun w hC=>does_mono (fun v w' ⟨I',H',h1,hs,h2,h3⟩=>
  have hT':=fun x hx=>hs x (hT x hx)
  ⟨Cls w0 S I' H',Cls.opn hT',h1,fun hb=>h2 (by simpa using hb),by rw[hd];exact h3 hT' _ ha⟩) (hv a w ha hC)⟩⟩⟩
end
section
variable {P:Program} {L:List Oper} {ef bk:List Nat} {tq:Tq} {Q:Exit→Act→World→Prop} {N:Fm} {E:Env} {w0:World} {S:List Nat} {I H:List It} {i:Nat} {l:Sq}
variable {d:Nat} {x y z:Operand} {ty t yt:TypeId} {pos:String} {af:Array Edge} {g:Option (Nat×Bool)} {v:Value} {k k':IntKind} {m n:Int}
def ib:BinOp→IntKind→Int→Int→Option Value
 | .add,k,a,b=>some (.int k (k.wrap (a+b)))
 | .sub,k,a,b=>some (.int k (k.wrap (a-b)))
 | .mul,k,a,b=>some (.int k (k.wrap (a*b)))
 | .and,k,a,b=>some (.int k (k.wrap (BitVec.ofInt k.bits a &&& BitVec.ofInt k.bits b).toNat))
 | .or,k,a,b=>some (.int k (k.wrap (BitVec.ofInt k.bits a ||| BitVec.ofInt k.bits b).toNat))
 | .xor,k,a,b=>some (.int k (k.wrap (BitVec.ofInt k.bits a^^^BitVec.ofInt k.bits b).toNat))
 | .andNot,k,a,b=>some (.int k (k.wrap (BitVec.ofInt k.bits a &&& ~~~BitVec.ofInt k.bits b).toNat))
 | .eql,_,a,b=>some (.bool (a==b))
 | .neq,_,a,b=>some (.bool (a !=b))
 | .lss,_,a,b=>some (.bool (decide (a<b)))
 | .leq,_,a,b=>some (.bool (decide (a≤b)))
 | .gtr,_,a,b=>some (.bool (decide (a>b)))
 | .geq,_,a,b=>some (.bool (decide (a≥b)))
 | _,_,_,_=>none
theorem exec_bin{ρ:Operand→Value}{dst:Option Tmp}{op:BinOp}(hx:ρ x=.int k m)(hy:ρ y=.int k n)(hv:ib op k m n=some v)(w:World):(execOp ρ ⟨dst,.binOp op t x y yt,ty,pos,af,g⟩).run P w=.ok (.value v) w:=by cases op<;>simp only[ib,Option.some.injEq,reduceCtorEq] at hv<;>subst hv<;>simp[execOp,hx,hy,eqGuard,binOp,Op.intArith,Op.intBits,Op.intCmp]
theorem RL.bin{op:BinOp}(ho:b7 L i=some ⟨some d,.binOp op t x y yt,ty,pos,af,g⟩)(hw:aG L E ⟨some d,.binOp op t x y yt,ty,pos,af,g⟩=true)(hN:Nat.blt d N.n=true)
  (hx:E.ev x=some (.int k m)) (hy:E.ev y=some (.int k n)) (hv:ib op k m n=some v) (h:RL P L ef bk tq Q l N ((d,v)::E) w0 S I H):RL P L ef bk tq Q (.cons i l) N E w0 S I H:=
 bN ho hw rfl hN (fun _ w ha=>exec_bin (ha.ev hx) (ha.ev hy) hv w) h
theorem RL.binX{op:BinOp}{v':Value}(ho:b7 L i=some ⟨some d,.binOp op t x y yt,ty,pos,af,g⟩)(hw:aG L E ⟨some d,.binOp op t x y yt,ty,pos,af,g⟩=true)(hN:Nat.blt d N.n=true)
  (hx:E.ev x=some (.int k m)) (hy:E.ev y=some (.int k n)) (hv:ib op k m n=some v) (hc:v=v') (h:RL P L ef bk tq Q l N ((d,v')::E) w0 S I H):RL P L ef bk tq Q (.cons i l) N E w0 S I H:=
 RL.bin ho hw hN hx hy hv (hc▸h)
theorem ad{n:Int}(h1: -9223372036854775808≤n)(h2:n≤9223372036854775807):Value.int .i64 (IntKind.i64.wrap n)=.int .i64 n:=by have:IntKind.i64.wrap n=n:=IntWalk.i64_in _ (by omega);rw[this]
theorem RL.quo(ho:b7 L i=some ⟨some d,.binOp .quo t x y yt,ty,pos,af,g⟩)(hw:aG L E ⟨some d,.binOp .quo t x y yt,ty,pos,af,g⟩=true)(hN:Nat.blt d N.n=true)
  (hx:E.ev x=some (.int k m)) (hy:E.ev y=some (.int k n)) (hn:n≠0) (h:RL P L ef bk tq Q l N ((d,.int k (k.wrap (m.tdiv n)))::E) w0 S I H):RL P L ef bk tq Q (.cons i l) N E w0 S I H:=
 bN ho hw rfl hN (fun _ w ha=>by simp[execOp,ha.ev hx,ha.ev hy,eqGuard,binOp,Op.intDiv,hn]) h
theorem RL.rem(ho:b7 L i=some ⟨some d,.binOp .rem t x y yt,ty,pos,af,g⟩)(hw:aG L E ⟨some d,.binOp .rem t x y yt,ty,pos,af,g⟩=true)(hN:Nat.blt d N.n=true)
  (hx:E.ev x=some (.int k m)) (hy:E.ev y=some (.int k n)) (hn:n≠0:=by decide) (h:RL P L ef bk tq Q l N ((d,.int k (m.tmod n))::E) w0 S I H):RL P L ef bk tq Q (.cons i l) N E w0 S I H:=
 bN ho hw rfl hN (fun _ w ha=>by simp[execOp,ha.ev hx,ha.ev hy,eqGuard,binOp,Op.intDiv,hn]) h
theorem RL.shl(s:Nat)(ho:b7 L i=some ⟨some d,.binOp .shl t x y yt,ty,pos,af,g⟩:=by exact rfl)(hw:aG L E ⟨some d,.binOp .shl t x y yt,ty,pos,af,g⟩=true:=by exact rfl)(hN:Nat.blt d N.n=true:=by exact rfl)
  (hx:E.ev x=some (.int k m):=by exact rfl) (hy:E.ev y=some (.int k' n):=by exact rfl) (hn:n=(s:Int)) (hs:s≤k.bits:=by decide) (h:RL P L ef bk tq Q l N ((d,.int k (k.wrap (m*2^s)))::E) w0 S I H):RL P L ef bk tq Q (.cons i l) N E w0 S I H:=
 bN ho hw rfl hN (fun _ w ha=>by
  subst hn
  have: ¬((s:Int)<0):=by omega
  simp[execOp,ha.ev hx,ha.ev hy,eqGuard,binOp,Op.shift,this,Nat.min_eq_left hs]) h
theorem RL.shr(s:Nat)(ho:b7 L i=some ⟨some d,.binOp .shr t x y yt,ty,pos,af,g⟩:=by exact rfl)(hw:aG L E ⟨some d,.binOp .shr t x y yt,ty,pos,af,g⟩=true:=by exact rfl)(hN:Nat.blt d N.n=true:=by exact rfl)
  (hx:E.ev x=some (.int k m):=by exact rfl) (hy:E.ev y=some (.int k' n):=by exact rfl) (hn:n=(s:Int):=by exact rfl) (hs:s≤k.bits:=by decide) (h:RL P L ef bk tq Q l N ((d,.int k (m.fdiv (2^s)))::E) w0 S I H):RL P L ef bk tq Q (.cons i l) N E w0 S I H:=
 bN ho hw rfl hN (fun _ w ha=>by
  subst hn
  have: ¬((s:Int)<0):=by omega
  simp[execOp,ha.ev hx,ha.ev hy,eqGuard,binOp,Op.shift,this,Nat.min_eq_left hs]) h
theorem RL.neg(ho:b7 L i=some ⟨some d,.unOp .neg t x,ty,pos,af,g⟩)(hw:aG L E ⟨some d,.unOp .neg t x,ty,pos,af,g⟩=true)(hN:Nat.blt d N.n=true)
  (hx:E.ev x=some (.int k m)) (h:RL P L ef bk tq Q l N ((d,.int k (k.wrap (0-m)))::E) w0 S I H):RL P L ef bk tq Q (.cons i l) N E w0 S I H:=
 bN ho hw rfl hN (fun _ w ha=>by simp[execOp,ha.ev hx,Op.unary,Op.intArith]) h
def inv(k:IntKind)(m:Int):Int:=k.wrap (BitVec.ofInt k.bits (if k.signed then -1 else k.max)^^^BitVec.ofInt k.bits m).toNat
theorem RL.inv(ho:b7 L i=some ⟨some d,.unOp .xor t x,ty,pos,af,g⟩)(hw:aG L E ⟨some d,.unOp .xor t x,ty,pos,af,g⟩=true)(hN:Nat.blt d N.n=true)
  (hx:E.ev x=some (.int k m)) (h:RL P L ef bk tq Q l N ((d,.int k (inv k m))::E) w0 S I H):RL P L ef bk tq Q (.cons i l) N E w0 S I H:=
 bN ho hw rfl hN (fun _ w ha=>by simp[execOp,ha.ev hx,Op.unary,Op.intBits,PK.inv]) h
theorem RL.conv(hs:∀w,(underlying t).run P w=.ok (.int k) w)(hd:∀w,(underlying yt).run P w=.ok (.int k') w)(ho:b7 L i=some ⟨some d,.convert t yt x,ty,pos,af,g⟩)(hw:aG L E ⟨some d,.convert t yt x,ty,pos,af,g⟩=true)(hN:Nat.blt d N.n=true)
  (hx:E.ev x=some (.int k m)) (h:RL P L ef bk tq Q l N ((d,.int k' (k'.wrap m))::E) w0 S I H):RL P L ef bk tq Q (.cons i l) N E w0 S I H:=
 bN ho hw rfl hN (fun _ w ha=>by simp[execOp,ha.ev hx,convert,hs,hd,Conv.intToInt]) h
theorem exec_max{ρ:Operand→Value}{dst:Option Tmp}{ats:Array TypeId}(hx:ρ x=.int k m)(hy:ρ y=.int k n)(w:World):(execOp ρ ⟨dst,.call ⟨.builtin .max,#[x,y],ats⟩,ty,pos,af,g⟩).run P w=.ok (.value (.int k (Max.max m n))) w:=by
 simp only[BigFrame.execOp_builtin,BigFrame.builtin_max,List.map_toArray,List.map_cons,List.map_nil,hx,hy];have:(if n>m then n else m)=Max.max m n:=by rw[Int.max_def];split<;>split<;>omega
 simp[Builtin.max_,Builtin.max2,this]
theorem exec_min{ρ:Operand→Value}{dst:Option Tmp}{ats:Array TypeId}(hx:ρ x=.int k m)(hy:ρ y=.int k n)(w:World):(execOp ρ ⟨dst,.call ⟨.builtin .min,#[x,y],ats⟩,ty,pos,af,g⟩).run P w=.ok (.value (.int k (Min.min m n))) w:=by
 simp only[BigFrame.execOp_builtin,BigFrame.builtin_min,List.map_toArray,List.map_cons,List.map_nil,hx,hy];have:(if n<m then n else m)=Min.min m n:=by rw[Int.min_def];split<;>split<;>omega
 simp[Builtin.min_,Builtin.min2,this]
theorem exec_lenS{ρ:Operand→Value}{dst:Option Tmp}{e:TypeId}{p:Option Addr}{len cap:Nat}(hu:∀w,(underlying t).run P w=.ok (.slice e) w)(hx:ρ x=.slice p len cap)(w:World):(execOp ρ ⟨dst,.call ⟨.builtin .len,#[x],#[t]⟩,ty,pos,af,g⟩).run P w=.ok (.value (.int .i64 len)) w:=by simp only[BigFrame.execOp_builtin,BigFrame.builtin_len,List.map_toArray,List.map_cons,List.map_nil,hx];simp[Builtin.len_,goInt,hu]
theorem RL.max{ats:Array TypeId}(ho:b7 L i=some ⟨some d,.call ⟨.builtin .max,#[x,y],ats⟩,ty,pos,af,g⟩:=by exact rfl)(hw:aG L E ⟨some d,.call ⟨.builtin .max,#[x,y],ats⟩,ty,pos,af,g⟩=true:=by exact rfl)(hN:Nat.blt d N.n=true:=by exact rfl)
  (hx:E.ev x=some (.int k m):=by exact rfl) (hy:E.ev y=some (.int k n):=by exact rfl) (h:RL P L ef bk tq Q l N ((d,.int k (Max.max m n))::E) w0 S I H):RL P L ef bk tq Q (.cons i l) N E w0 S I H:=
 bN ho hw rfl hN (fun _ w ha=>exec_max (ha.ev hx) (ha.ev hy) w) h
theorem RL.min{ats:Array TypeId}(ho:b7 L i=some ⟨some d,.call ⟨.builtin .min,#[x,y],ats⟩,ty,pos,af,g⟩:=by exact rfl)(hw:aG L E ⟨some d,.call ⟨.builtin .min,#[x,y],ats⟩,ty,pos,af,g⟩=true:=by exact rfl)(hN:Nat.blt d N.n=true:=by exact rfl)
  (hx:E.ev x=some (.int k m):=by exact rfl) (hy:E.ev y=some (.int k n):=by exact rfl) (h:RL P L ef bk tq Q l N ((d,.int k (Min.min m n))::E) w0 S I H):RL P L ef bk tq Q (.cons i l) N E w0 S I H:=
 bN ho hw rfl hN (fun _ w ha=>exec_min (ha.ev hx) (ha.ev hy) w) h
theorem RL.lenS{e:TypeId}{p:Option Addr}{len cap:Nat}(hu:∀w,(underlying t).run P w=.ok (.slice e) w)(ho:b7 L i=some ⟨some d,.call ⟨.builtin .len,#[x],#[t]⟩,ty,pos,af,g⟩)(hw:aG L E ⟨some d,.call ⟨.builtin .len,#[x],#[t]⟩,ty,pos,af,g⟩=true)(hN:Nat.blt d N.n=true)
  (hx:E.ev x=some (.slice p len cap)) (h:RL P L ef bk tq Q l N ((d,.int .i64 len)::E) w0 S I H):RL P L ef bk tq Q (.cons i l) N E w0 S I H:=
 bN ho hw rfl hN (fun _ w ha=>exec_lenS hu (ha.ev hx) w) h
end
def Spc(P:Program)(f:FuncId)(args:Array Value)(I H:List It)(R:Value→List It→List It→Prop):Prop:=
 ∀w,Sat I H w→Calls P f args w (fun e w'=>∃v I' H',e=.returned v∧R v I' H'∧Keeps (bss H) w w'∧Sat I' H' w'∧(∀b∈bss H',b∈bss H∨w.heap.size≤b)∧(∀b∈bss I',b∈bss H∨w.heap.size≤b))
def Is(u:Value):Value→List It→List It→Prop:=fun v I' H'=>v=u∧I'=[]∧H'=[]
inductive Pick:List It→List It→List It→Prop
 | nil:Pick [] [] []
 | take {x:It} {H A B:List It} (h:Pick H A B):Pick (x::H) (x::A) B
 | leave {x:It} {H A B:List It} (h:Pick H A B):Pick (x::H) A (x::B)
theorem pE{A B C:List It}(h:Pick A B C:=by repeat (first|exact Pick.nil|apply Pick.take|apply Pick.leave)):Pick A B C:=h
theorem Pick.memA{H A B:List It}(h:Pick H A B):∀x∈A,x∈H:=by
 induction h with
 | nil=>simp
 | take h ih => intro x hx; rcases List.mem_cons.1 hx with rfl | hx
                · simp
                · simp [ih x hx]
 | leave h ih=>intro x hx;simp[ih x hx]
theorem Pick.memB{H A B:List It}(h:Pick H A B):∀x∈B,x∈H:=by
 induction h with
 | nil=>simp
 | take h ih=>intro x hx;simp[ih x hx]
 | leave h ih => intro x hx; rcases List.mem_cons.1 hx with rfl | hx
                 · simp
                 · simp [ih x hx]
theorem Pick.perm{H A B:List It}(h:Pick H A B):(bss H).Perm (bss A++bss B):=by
 induction h with
 | nil=>exact List.Perm.refl _
 | take h ih=>simp only[bM,List.append_assoc];exact ih.append_left _
 | leave h ih=>simp only[bM];refine(ih.append_left _).trans ?_;rw[←List.append_assoc,←List.append_assoc];exact List.perm_append_comm.append_right _
theorem ai:∀H:List It,Pick H [] H
 | []=>.nil
 | _::H=>.leave (ai H)
inductive Lend(I F:List It):List It→Prop
 | nil:Lend I F []
 | inI {x:It} {J:List It} (hx:x∈I) (h:Lend I F J):Lend I F (x::J)
 | inH {x:It} {J:List It} (hx:x∈F) (h:Lend I F J):Lend I F (x::J)
 | of {x:It} {J:List It} (hx:∀w,Sat I F w→x.A w) (hb:∀b∈x.bs,b∈bss I∨b∈bss F) (h:Lend I F J):Lend I F (x::J)
theorem Lend.spec{I F J:List It}(h:Lend I F J){w:World}(hw:Sat I F w):(∀x∈J,x.A w)∧∀b∈bss J,b∈bss I∨b∈bss F:=by
 induction h with
 | nil=>simp
 | inI hx h ih=>
  refine⟨fun x h=>?_,fun b hb=>?_⟩
  ·rcases List.mem_cons.1 h with rfl|h
   ·exact hw.i _ hx
   ·exact ih.1 x h
  ·rcases List.mem_append.1 hb with hb|hb
   ·exact .inl (mem_bss.2 ⟨_,hx,hb⟩)
   ·exact ih.2 b hb
 | inH hx h ih=>
  refine⟨fun x h=>?_,fun b hb=>?_⟩
  ·rcases List.mem_cons.1 h with rfl|h
   ·exact hw.h _ hx
   ·exact ih.1 x h
  ·rcases List.mem_append.1 hb with hb|hb
   ·exact .inr (mem_bss.2 ⟨_,hx,hb⟩)
   ·exact ih.2 b hb
 | of hx hb h ih=>
  refine⟨fun x h=>?_,fun b hb'=>?_⟩
  ·rcases List.mem_cons.1 h with rfl|h
   ·exact hx w hw
   ·exact ih.1 x h
  ·rcases List.mem_append.1 hb' with hb'|hb'
   ·exact hb b hb'
   ·exact ih.2 b hb'
section
variable {P:Program} {L:List Oper} {ef bk:List Nat} {tq:Tq} {Q:Exit→Act→World→Prop} {N:Fm} {E:Env} {w0:World} {S:List Nat} {I H:List It} {i:Nat} {l:Sq}
variable {d:Nat} {x y z:Operand} {ty t yt:TypeId} {pos:String} {af:Array Edge} {g:Option (Nat×Bool)} {v:Value} {k k':IntKind} {m n:Int}
theorem exec_call{a:Act}{dst:Option Tmp}{f:FuncId}{xs:Array Operand}{ats:Array TypeId}(hrun:∀args w,(callFunc f args).run P w=.ok (.enter f args) w)(w:World):(execOp a.eval ⟨dst,.call ⟨.value (.func f),xs,ats⟩,ty,pos,af,g⟩).run P w=.ok (.enter f (#[]++xs.map a.eval++ #[])) w:=by rw[execOp_call_go,hrun]
theorem Sat.part{A B C:List It}{w:World}(h:Sat I H w)(hp:Pick H A B)(hl:Lend I B C):Sat C A w∧Sat I B w:=by
 have hperm:=hp.perm;have hnd:(bss A++bss B).Nodup:=hperm.nodup_iff.1 h.nd;rw[List.nodup_append] at hnd;have hB:Sat I B w:=⟨h.i,fun x hx=>h.h x (hp.memB x hx),hnd.2.1,fun b hb hb'=>h.dj b hb (hperm.mem_iff.2 (List.mem_append_right _ hb'))⟩;obtain⟨h1,h2⟩:=hl.spec hB;refine⟨⟨h1,fun x hx=>h.h x (hp.memA x hx),hnd.1,fun b hb hb'=>?_⟩,hB⟩;rcases h2 b hb with h3|h3
 ·exact h.dj b h3 (hperm.mem_iff.2 (List.mem_append_left _ hb'))
 ·exact hnd.2.2 b hb' b h3 rfl
theorem Cls.call{A B C I' H':List It}{w w':World}(h:Cls w0 S I H w)(hp:Pick H A B)(hl:Lend I B C)(hk:Keeps (bss A) w w')(hs:Sat I' H' w')(hn:∀b∈bss H',b∈bss A∨w.heap.size≤b)(hni:∀b∈bss I',b∈bss A∨w.heap.size≤b):Cls w0 S (I'++I) (H'++B) w':=by
 obtain⟨hA,hB⟩:=h.s.part hp hl;have hperm:=hp.perm;have hnd:(bss A++bss B).Nodup:=hperm.nodup_iff.1 h.s.nd;rw[List.nodup_append] at hnd;have ltB:∀b∈bss B,b<w.heap.size:=fun b hb=>by obtain⟨x,hx,hbx⟩:=mem_bss.1 hb;exact x.lt w (hB.h x hx) b hbx
 have ltI:∀b∈bss I,b<w.heap.size:=fun b hb=>by obtain⟨x,hx,hbx⟩:=mem_bss.1 hb;exact x.lt w (h.s.i x hx) b hbx
 have nAI:∀b∈bss I,b∉bss A:=fun b hb hb'=>h.s.dj b hb (hperm.mem_iff.2 (List.mem_append_left _ hb'));have nAB:∀b∈bss B,b∉bss A:=fun b hb hb'=>hnd.2.2 b hb' b hb rfl;refine⟨⟨hk.os.trans h.k.os,hk.tape.trans h.k.tape,hk.output.trans h.k.output,Nat.le_trans h.k.size hk.size,fun b hb hbS=>?_,Nat.le_trans h.k.drawn hk.drawn⟩,⟨?_,?_,?_,?_⟩,?_⟩
 ·rw[hk.block b (Nat.lt_of_lt_of_le hb h.k.size) (fun hbA=>hbS (h.own b (hperm.mem_iff.2 (List.mem_append_left _ hbA)) hb)),h.k.block b hb hbS]
 ·intro x hx;rcases List.mem_append.1 hx with hx|hx
  ·exact hs.i x hx
  ·exact It.grow (h.s.i x hx) hk fun b hb=>nAI b (mem_bss.2 ⟨x,hx,hb⟩)
 ·intro x hx;rcases List.mem_append.1 hx with hx|hx
  ·exact hs.h x hx
  ·exact It.grow (hB.h x hx) hk fun b hb=>nAB b (mem_bss.2 ⟨x,hx,hb⟩)
 ·rw[cY,List.nodup_append];refine⟨hs.nd,hnd.2.1,fun b hb b' hb' e=>?_⟩;subst e;rcases hn b hb with h1|h1
  ·exact nAB b hb' h1
  ·have:=ltB b hb';omega
 ·intro b hb hb';rw[cY] at hb hb';rcases List.mem_append.1 hb with hb|hb<;>rcases List.mem_append.1 hb' with hb'|hb'
  ·exact hs.dj b hb hb'
  ·rcases hni b hb with h1|h1
   ·exact nAB b hb' h1
   ·have:=ltB b hb';omega
  ·rcases hn b hb' with h1|h1
   ·exact nAI b hb h1
   ·have:=ltI b hb;omega
  ·exact h.s.dj b hb (hperm.mem_iff.2 (List.mem_append_right _ hb'))
 ·intro b hb hlt;rw[cY] at hb;rcases List.mem_append.1 hb with hb|hb
  ·rcases hn b hb with h1|h1
   ·exact h.own b (hperm.mem_iff.2 (List.mem_append_left _ h1)) hlt
   ·have:=h.k.size;omega
  ·exact h.own b (hperm.mem_iff.2 (List.mem_append_right _ hb)) hlt
theorem Cls.forget{I' H' B:List It}{w:World}(hp:Pick H [] B)(h:Cls w0 S (I'++I) (H'++B) w):Cls w0 S I H w:=by
 have hperm:=hp.perm;simp only[bss_nil,List.nil_append] at hperm;have hs:=h.s;have hnd:=hs.nd;rw[cY,List.nodup_append] at hnd;refine⟨h.k,⟨fun x hx=>hs.i x (by simp[hx]),fun x hx=>hs.h x ?_,hperm.nodup_iff.2 hnd.2.1,fun b hb hb'=>?_⟩,fun b hb=>h.own b ?_⟩
 ·have:∀ {H A B:List It},Pick H A B→∀x∈H,x∈A∨x∈B:=by
   intro H A B h
   induction h with
   | nil=>simp
   | take h ih => intro x hx; rcases List.mem_cons.1 hx with rfl | hx
                  · simp
                  · rcases ih x hx with h | h <;> simp [h]
   | leave h ih => intro x hx; rcases List.mem_cons.1 hx with rfl | hx
                   · simp
                   · rcases ih x hx with h | h <;> simp [h]
  rcases this hp x hx with h|h
  ·cases h
  ·simp[h]
 ·exact hs.dj b (by rw[cY];exact List.mem_append_right _ hb) (by rw[cY];exact List.mem_append_right _ (hperm.mem_iff.1 hb'))
 ·rw[cY];exact List.mem_append_right _ (hperm.mem_iff.1 hb)
theorem RL.call{f:FuncId}{args:List Value}{A B C:List It}{R:Value→List It→List It→Prop}{xs:Array Operand}{ats:Array TypeId}(hfn:Spc P f args.toArray C A R)(hrun:∀args w,(callFunc f args).run P w=.ok (.enter f args) w:=by intro _ _;kernel_rfl)(ho:b7 L i=some ⟨some d,.call ⟨.value (.func f),xs,ats⟩,ty,pos,af,g⟩:=by exact rfl)(hw:aG L E ⟨some d,.call ⟨.value (.func f),xs,ats⟩,ty,pos,af,g⟩=true:=by exact rfl)(hN:Nat.blt d N.n=true:=by exact rfl)(hi:ef.contains i=true:=by exact rfl)(hx:evs E xs.toList=some args:=by exact rfl)(hp:Pick H A B:=by exact pE)(hl:Lend I B C)(hb:A=[]∨bk.contains i=true)(h:∀v I' H',R v I' H'→RL P L ef bk tq Q l N ((d,v)::E) w0 S (I'++I) (H'++B)):RL P L ef bk tq Q (.cons i l) N E w0 S I H:=by
 refine eZ ho hw hi rfl hN (fun a w ha hC=>?_);unfold dD;rw[exec_call hrun];have hargs:(#[]++xs.map a.eval++ #[])=args.toArray:=by have:=ha.evs hx;apply Array.toList_inj.1;simpa using this
 show Calls P f _ w _;rw[hargs];refine(hfn w (hC.s.part hp hl).1).mono ?_;rintro e w' ⟨v,I',H',he,hR,hk,hs,hn,hni⟩;refine⟨v,he,I'++I,H'++B,hC.call hp hl hk hs hn hni,fun x hx=>List.mem_append_right _ hx,fun hbk w2 hw2=>?_,h v I' H' hR⟩;rcases hb with rfl|hb
 ·exact hw2.forget hp
 ·rw[hb] at hbk;cases hbk
theorem ar{f:FuncId}{args:List Value}{C:List It}{u:Value}{xs:Array Operand}{ats:Array TypeId}(hfn:Spc P f args.toArray C [] (Is u))(hrun:∀args w,(callFunc f args).run P w=.ok (.enter f args) w:=by intro _ _;kernel_rfl)(ho:b7 L i=some ⟨some d,.call ⟨.value (.func f),xs,ats⟩,ty,pos,af,g⟩:=by exact rfl)(hw:aG L E ⟨some d,.call ⟨.value (.func f),xs,ats⟩,ty,pos,af,g⟩=true:=by exact rfl)(hN:Nat.blt d N.n=true:=by exact rfl)(hx:evs E xs.toList=some args:=by exact rfl)(hl:Lend I H C)(h:RL P L ef bk tq Q l N ((d,u)::E) w0 S I H)(ht:tq.l.contains i=false:=by rfl):RL P L ef bk tq Q (.cons i l) N E w0 S I H:=by
 refine RL.quiet ho hw rfl hN (fun a w ha hC=>?_) h rfl ht;unfold dD;rw[exec_call hrun];have hargs:(#[]++xs.map a.eval++ #[])=args.toArray:=by have:=ha.evs hx;apply Array.toList_inj.1;simpa using this
 show Calls P f _ w _;rw[hargs];refine(hfn w (hC.s.part (ai H) hl).1).mono ?_;rintro e w' ⟨v,I',H',he,⟨rfl,rfl,rfl⟩,hk,hs,hn,hni⟩;exact⟨v,he,rfl,hk⟩
theorem RL.callvT{f:FuncId}{args:List Value}{C:List It}{u:Value}{xs:Array Operand}{ats:Array TypeId}(hfn:Spc P f args.toArray C [] (Is u))(hrun:∀args w,(callFunc f args).run P w=.ok (.enter f args) w)(ho:b7 L i=some ⟨some d,.call ⟨.value (.func f),xs,ats⟩,ty,pos,af,g⟩)(hw:aG L E ⟨some d,.call ⟨.value (.func f),xs,ats⟩,ty,pos,af,g⟩=true)(hN:Nat.blt d N.n=true)(hx:evs E xs.toList=some args)(hl:Lend tq.T [] C)(h:RL P L ef bk tq Q l N ((d,u)::E) w0 S I H):RL P L ef bk tq Q (.cons i l) N E w0 S I H:=by
 refine RL.toldQ ho hw rfl hN (fun a w ha hC=>?_) h;unfold dD;rw[exec_call hrun];have hargs:(#[]++xs.map a.eval++ #[])=args.toArray:=by have:=ha.evs hx;apply Array.toList_inj.1;simpa using this
 show Calls P f _ w _;rw[hargs];have hsat:Sat tq.T [] w:=⟨hC,by simp,by simp,by simp⟩;refine(hfn w (hsat.part (ai []) hl).1).mono ?_;rintro e w' ⟨v,I',H',he,⟨rfl,rfl,rfl⟩,hk,hs,hn,hni⟩;exact⟨v,he,rfl,hk⟩
theorem exec_callF{ρ:Operand→Value}{dst:Option Tmp}{f:FuncId}{b1 b2:Array Value}{xs:Array Operand}{ats:Array TypeId}(hy:ρ y=.func (.func f) b1 b2):execOp ρ ⟨dst,.call ⟨.value y,xs,ats⟩,ty,pos,af,g⟩=callFunc f (b1++xs.map ρ++b2):=by simp only[execOp,resolve,hy];rfl
theorem RL.callvF{f:FuncId}{args:List Value}{C:List It}{u:Value}{xs:Array Operand}{ats:Array TypeId}(hfn:Spc P f args.toArray C [] (Is u))(hrun:∀args w,(callFunc f args).run P w=.ok (.enter f args) w)(ho:b7 L i=some ⟨some d,.call ⟨.value y,xs,ats⟩,ty,pos,af,g⟩)(hw:aG L E ⟨some d,.call ⟨.value y,xs,ats⟩,ty,pos,af,g⟩=true)(hN:Nat.blt d N.n=true)(hy:E.ev y=some (.func (.func f) #[] #[]))(hx:evs E xs.toList=some args)(hl:Lend I H C)(h:RL P L ef bk tq Q l N ((d,u)::E) w0 S I H)(ht:tq.l.contains i=false:=by rfl):RL P L ef bk tq Q (.cons i l) N E w0 S I H:=by
 refine RL.quiet ho hw rfl hN (fun a w ha hC=>?_) h rfl ht;unfold dD;rw[exec_callF (ha.ev hy),hrun];have hargs:(#[]++xs.map a.eval++ #[])=args.toArray:=by have:=ha.evs hx;apply Array.toList_inj.1;simpa using this
 show Calls P f _ w _;rw[hargs];refine(hfn w (hC.s.part (ai H) hl).1).mono ?_;rintro e w' ⟨v,I',H',he,⟨rfl,rfl,rfl⟩,hk,hs,hn,hni⟩;exact⟨v,he,rfl,hk⟩
def args0:List Value→Nat→Env
 | [],_=>[]
 | v::r,n=>(n,v)::args0 r (n+1)
theorem args0_get:∀(l:List Value) (n k:Nat) (v:Value),(args0 l n).get k=some v→n≤k∧l[k-n]?=some v
 | [],_,_,_,h=>by cases h
 | u::r,n,k,v,h=>by
  unfold args0 Env.get at h
  cases he:Nat.beq n k
  ·simp only[he,cond_false] at h
   have hne:n≠k:=by intro e;subst e;simp at he
   obtain⟨h1,h2⟩:=args0_get r (n+1) k v h
   refine⟨by omega,?_⟩
   rw[show k-n=(k-(n+1))+1 by omega]
   simpa using h2
  ·simp only[he,cond_true,Option.some.injEq] at h
   have:n=k:=by simpa using he
   subst this;subst h
   simp
def FnPost(P:Program)(fn:Func)(R:Value→List It→List It→Prop)(w0:World)(S:List Nat):Exit→Act→World→Prop:=
 bodyPostM Fence.wide 0 P fn (fun e w'=>∃v I' H',e=.returned v∧R v I' H'∧Keeps S w0 w'∧Sat I' H' w'∧(∀b∈bss H',b∈S∨w0.heap.size≤b)∧(∀b∈bss I',b∈S∨w0.heap.size≤b))
theorem Spc.enter{n:Nat}{f:FuncId}{fn:Func}{c:Code}{args:List Value}{R:Value→List It→List It→Prop}(hf:P.funcs[f]?=some fn)(hb:fn.body=some c:=by exact rfl)(hn:fn.ntmps=n:=by exact rfl)(hl:Nat.ble args.length n=true:=by exact rfl)(h:∀w0,Sat I H w0→CW P c (FnPost P fn R w0 (bss H)) ⟨n,[],none⟩ (args0 args 0) w0 (bss H) I H):Spc P f args.toArray I H R:=by
 intro w hw;refine(callsIn_wide (n:=0)).1 (callsIn_of_wp_marks hf hb trivial (h w hw _ w ⟨rfl,?_,?_⟩ ⟨Keeps.refl _ _,hw,fun b hb _=>hb⟩))
 ·have:args.length≤n:=by simpa using hl
  simp[hn];omega
 ·intro k v hk;obtain⟨_,h2⟩:=args0_get args 0 k v hk;simp only[Nat.sub_zero] at h2;have hlt:k<args.length:=(List.getElem?_eq_some_iff.1 h2).1;rw[Array.getElem?_append];simp only[List.size_toArray,hlt,if_true,List.getElem?_toArray];exact h2
inductive Split:List It→List It→List It→Prop
 | nil:Split [] [] []
 | keep {x:It} {H A B:List It} (h:Split H A B):Split (x::H) (x::A) B
 | give {x:It} {H A B:List It} (h:Split H A B):Split (x::H) A (x::B)
 | drop {x:It} {H A B:List It} (h:Split H A B):Split (x::H) A B
theorem aa:∀H:List It,Split H [] []
 | []=>.nil
 | _::H=>.drop (aa H)
theorem Split.spec{H A B:List It}(h:Split H A B):(∀x∈A,x∈H)∧(∀x∈B,x∈H)∧((bss H).Nodup→(bss A).Nodup∧∀b∈bss B,b∉bss A):=by
 have sub:∀ {H A B:List It},Split H A B→(∀x∈A,x∈H)∧(∀x∈B,x∈H):=by
  intro H A B h
  induction h with
  | nil=>simp
  | keep h ih=>exact⟨fun x hx=>by rcases List.mem_cons.1 hx with rfl|hx<;>simp_all,fun x hx=>by simp[ih.2 x hx]⟩
  | give h ih=>exact⟨fun x hx=>by simp[ih.1 x hx],fun x hx=>by rcases List.mem_cons.1 hx with rfl|hx<;>simp_all⟩
  | drop h ih=>exact⟨fun x hx=>by simp[ih.1 x hx],fun x hx=>by simp[ih.2 x hx]⟩
 have subb:∀ {H A B:List It},Split H A B→(∀b∈bss A,b∈bss H)∧(∀b∈bss B,b∈bss H):=fun h=>⟨fun b hb=>by obtain⟨x,hx,hbx⟩:=mem_bss.1 hb;exact mem_bss.2 ⟨x,(sub h).1 x hx,hbx⟩,fun b hb=>by obtain⟨x,hx,hbx⟩:=mem_bss.1 hb;exact mem_bss.2 ⟨x,(sub h).2 x hx,hbx⟩⟩
 refine⟨(sub h).1,(sub h).2,?_⟩
 induction h with
 | nil=>simp
 | keep h ih=>
  intro hnd;rw[bM,List.nodup_append] at hnd;obtain⟨i1,i2⟩:=ih hnd.2.1;refine⟨?_,fun b hb hb'=>?_⟩
  ·rw[bM,List.nodup_append];exact⟨hnd.1,i1,fun b hb b' hb'=>hnd.2.2 b hb b' ((subb h).1 b' hb')⟩
  ·rw[bM] at hb';rcases List.mem_append.1 hb' with hb'|hb'
   ·exact hnd.2.2 b hb' b ((subb h).2 b hb) rfl
   ·exact i2 b hb hb'
 | give h ih=>
  intro hnd;rw[bM,List.nodup_append] at hnd;obtain⟨i1,i2⟩:=ih hnd.2.1;refine⟨i1,fun b hb hb'=>?_⟩;rw[bM] at hb;rcases List.mem_append.1 hb with hb|hb
  ·exact hnd.2.2 b hb b ((subb h).1 b hb') rfl
  ·exact i2 b hb hb'
 | drop h ih=>intro hnd;rw[bM,List.nodup_append] at hnd;exact ih hnd.2.1
theorem RQ.post{fn:Func}{R:Value→List It→List It→Prop}{H' I':List It}(hr:∀a w,Ag N a E→Cls w0 S I H w→(results fn a.tmps).run P w=.ok v w)(hs:Split H H' I')(hR:R v I' H')(hd:N.ds=[]:=by rfl):RQ (FnPost P fn R w0 S) N E w0 S I H:=by
 intro a w ha hw;obtain⟨s1,s2,s3⟩:=hs.spec;obtain⟨s4,s5⟩:=s3 hw.s.nd
 have own:∀x∈H,∀b∈x.bs,b∈S∨w0.heap.size≤b:=fun x hx b hb=>by
  rcases Nat.lt_or_ge b w0.heap.size with h|h
  ·exact .inl (hw.own b (mem_bss.2 ⟨x,hx,hb⟩) h)
  ·exact .inr h
 show LeavesInM _ _ _ _ _ _ a.defers _ _;rw[ha.d,hd];refine⟨v,hr a w ha hw,v,I',H',rfl,hR,hw.k,⟨fun x hx=>hw.s.h x (s2 x hx),fun x hx=>hw.s.h x (s1 x hx),s4,s5⟩,?_,?_⟩
 ·intro b hb;obtain⟨x,hx,hbx⟩:=mem_bss.1 hb;exact own x (s1 x hx) b hbx
 ·intro b hb;obtain⟨x,hx,hbx⟩:=mem_bss.1 hb;exact own x (s2 x hx) b hbx
theorem NQ.post{fn:Func}{R:Value→List It→List It→Prop}{H' I':List It}(hr:∀a w,Ag N a E→Cls w0 S I H w→(results fn a.tmps).run P w=.ok v w)(hs:Split H H' I')(hR:R v I' H')(hd:N.ds=[]:=by rfl):NQ (FnPost P fn R w0 S) N E w0 S I H:=
 fun a w ha hw=>RQ.post (P:=P) hr hs hR hd a w ha hw
theorem az{fn:Func}{t:Tmp}(hf:fn.results= #[.tmp t])(ht:E.get t=some v):∀a w,Ag N a E→Cls w0 S I H w→(results fn a.tmps).run P w=.ok v w:=fun a w ha _=>by
 rw[results_tmp hf];simp[ha.t t v ht]
theorem bb{fn:Func}{t u:Tmp}{v1 v2:Value}(hf:fn.results= #[.tmp t,.tmp u])(ht:E.get t=some v1)(hu:E.get u=some v2):
  ∀a w,Ag N a E→Cls w0 S I H w→(results fn a.tmps).run P w=.ok (.tuple #[v1,v2]) w:=fun a w ha _=>by
 rw[results_tmp2 hf];simp[ha.t t v1 ht,ha.t u v2 hu]
theorem dn{fn:Func}(hf:fn.results= #[]):∀a w,Ag N a E→Cls w0 S I H w→(results fn a.tmps).run P w=.ok (.tuple #[]) w:=fun _ _ _ _=>results_none hf _ _ _
end
section
variable {P:Program} {L:List Oper} {ef bk:List Nat} {tq:Tq} {Q:Exit→Act→World→Prop} {N:Fm} {E:Env} {w0:World} {S:List Nat} {I H:List It} {i:Nat} {l:Sq}
variable {d:Nat} {x y z:Operand} {ty t yt:TypeId} {pos:String} {af:Array Edge} {g:Option (Nat×Bool)} {v:Value} {k k':IntKind} {m n:Int}
theorem ir(w:World)(o:Obj){b:Nat}(h:b<w.heap.size):(w.alloc o).heap[b]?=w.heap[b]?:=by simp only[World.alloc,Array.getElem?_push,if_neg (show¬b=w.heap.size by omega)]
theorem cH(w:World)(o:Obj):(w.alloc o).heap[w.heap.size]?=some o:=by show(w.heap.push o)[w.heap.size]?=some o;simp
theorem Keeps.alloc(S:List Nat)(w:World)(o:Obj):Keeps S w (w.alloc o):=
 ⟨rfl,rfl,rfl,by simp,fun _ hb _=>ir w o hb,Nat.le_refl _⟩
theorem Cls.more{x:It}{w w':World}(h:Cls w0 S I H w)(hg:Grow w w')(hx:x.A w')(hn:x.bs.Nodup)(hb:∀b∈x.bs,w.heap.size≤b):Cls w0 S I (x::H) w':=by
 have hO:=Cls.open w0 S I H w w' h hg;have ltH:∀b∈bss H,b<w.heap.size:=fun b hb=>by obtain⟨y,hy,hbx⟩:=mem_bss.1 hb;exact y.lt w (h.s.h y hy) b hbx
 have ltI:∀b∈bss I,b<w.heap.size:=fun b hb=>by obtain⟨y,hy,hbx⟩:=mem_bss.1 hb;exact y.lt w (h.s.i y hy) b hbx
 refine⟨hO.k,⟨hO.s.i,fun y hy=>?_,?_,fun b hb' hbx=>?_⟩,fun b hbx hlt=>?_⟩
 ·rcases List.mem_cons.1 hy with rfl|hy
  ·exact hx
  ·exact hO.s.h y hy
 ·rw[bM,List.nodup_append];exact⟨hn,h.s.nd,fun b h1 b' h2 e=>by subst e;have:=hb b h1;have:=ltH b h2;omega⟩
 ·rw[bM] at hbx;rcases List.mem_append.1 hbx with h1|h1
  ·have:=hb b h1;have:=ltI b hb';omega
  ·exact h.s.dj b hb' h1
 ·rw[bM] at hbx;rcases List.mem_append.1 hbx with h1|h1
  ·have:=hb b h1;have:=h.k.size;omega
  ·exact h.own b h1 hlt
theorem Cls.less{x:It}{w:World}(h:Cls w0 S I (x::H) w):Cls w0 S I H w:=h.les (fun _ h=>h) (.drop (Les.refl H))
theorem RL.make{o:Oper}{x:Nat→It}{u:Nat→Value}(ho:b7 L i=some o)(hw:aG L E o=true)(hi:ef.contains i=true)(hd:o.dst=some d)(hN:Nat.blt d N.n=true)(hv:∀a w,Ag N a E→Cls w0 S I H w→∃w',(execOp a.eval o).run P w=.ok (.value (u w.heap.size)) w'∧Grow w w'∧(x w.heap.size).A w'∧(x w.heap.size).bs=[w.heap.size])(h:∀b,RL P L ef bk tq Q l N ((d,u b)::E) w0 S I (x b::H)):RL P L ef bk tq Q (.cons i l) N E w0 S I H:=by refine eZ ho hw hi hd hN (fun a w ha hC=>?_);obtain⟨w',h1,h2,h3,h4⟩:=hv a w ha hC;unfold dD;rw[h1];exact⟨I,_,hC.more h2 h3 (by rw[h4];simp) (by rw[h4];simp),fun _ h=>h,fun _ _ h=>h.less,h _⟩
theorem cel_new{w:World}{cs:List Value}{T:TypeId}:(cel w.heap.size cs T).A (w.alloc (.cells cs.toArray T)):=cH w _
theorem RL.box{cs:List Value}(ho:b7 L i=some ⟨some d,.box t x,ty,pos,af,g⟩)(hw:aG L E ⟨some d,.box t x,ty,pos,af,g⟩=true)(hN:Nat.blt d N.n=true)(hi:ef.contains i=true)
  (hx:E.ev x=some v) (hc:v.cells=cs.toArray) (h:∀b,RL P L ef bk tq Q l N ((d,.pointer (some ⟨b,0,none⟩))::E) w0 S I (cel b cs t::H)):RL P L ef bk tq Q (.cons i l) N E w0 S I H:=
 RL.make (x:=fun b=>cel b cs t) (u:=fun b=>.pointer (some ⟨b,0,none⟩)) ho hw hi rfl hN (fun a w ha _=>⟨w.alloc (.cells cs.toArray t),by
  simp[execOp,ha.ev hx,Instr.box,newVar,newRow,hc],Keeps.alloc _ _ _,cel_new,rfl⟩) h
theorem RL.alloc{cs:List Value}{z':Value}(hz:∀w,(zeroValue t).run P w=.ok z' w:=by exact KZ.h)(ho:b7 L i=some ⟨some d,.alloc t,ty,pos,af,g⟩)(hw:aG L E ⟨some d,.alloc t,ty,pos,af,g⟩=true:=by exact rfl)(hN:Nat.blt d N.n=true:=by exact rfl)(hi:ef.contains i=true:=by exact rfl)
  (hc:z'.cells=cs.toArray:=by exact rfl) (h:∀b,RL P L ef bk tq Q l N ((d,.pointer (some ⟨b,0,none⟩))::E) w0 S I (cel b cs t::H)):RL P L ef bk tq Q (.cons i l) N E w0 S I H:=
 RL.make (x:=fun b=>cel b cs t) (u:=fun b=>.pointer (some ⟨b,0,none⟩)) ho hw hi rfl hN (fun a w _ _=>⟨w.alloc (.cells cs.toArray t),by
  simp[execOp,Instr.alloc,hz,newVar,newRow,hc],Keeps.alloc _ _ _,cel_new,rfl⟩) h
def Rd(I H:List It)(p:Addr)(v:Value):Prop:=∀w,Sat I H w→w.cell? p=some v
def Rds(I H:List It)(p:Addr)(vs:List Value):Prop:=∀w,Sat I H w→∀j u,vs[j]?=some u→w.cell? (p.add j)=some u
theorem dM{b off:Nat}{cs:List Value}{T:TypeId}{w:World}(h:(cel b cs T).A w):w.cell? ⟨b,off,none⟩=cs[off]?:=by have h':w.heap[b]?=some (.cells cs.toArray T (0,0)):=h;simp[World.cell?,h']
theorem Rd.cel{b off:Nat}{cs:List Value}{T:TypeId}(hm:cel b cs T∈H)(hn:b7 cs off=some v):Rd I H ⟨b,off,none⟩ v:=fun w hw=>by
 rw[dM (hw.h _ hm),←eQ];exact hn
theorem Rd.celI{b off:Nat}{cs:List Value}{T:TypeId}(hm:PK.cel b cs T∈I)(hn:b7 cs off=some v):Rd I H ⟨b,off,none⟩ v:=fun w hw=>by
 rw[dM (hw.i _ hm),←eQ];exact hn
theorem bn(b off j:Nat):(⟨b,off,none⟩:Addr).add j=⟨b,off+j,none⟩:=by unfold Addr.add;split<;>simp_all
theorem Rds.cel{b off:Nat}{cs vs:List Value}{T:TypeId}(hm:PK.cel b cs T∈H)(hv:∀j u,vs[j]?=some u→cs[off+j]?=some u):Rds I H ⟨b,off,none⟩ vs:=fun w hw j u hu=>by
 rw[bn,dM (hw.h _ hm)];exact hv j u hu
theorem Rds.celI{b off:Nat}{cs vs:List Value}{T:TypeId}(hm:PK.cel b cs T∈I)(hv:∀j u,vs[j]?=some u→cs[off+j]?=some u):Rds I H ⟨b,off,none⟩ vs:=fun w hw j u hu=>by
 rw[bn,dM (hw.i _ hm)];exact hv j u hu
def at_(cs:List Value):Nat→List Value→Prop
 | _,[]=>True
 | n,v::vs=>b7 cs n=some v∧at_ cs (n+1) vs
theorem am{cs:List Value}:∀ {vs:List Value} {n:Nat},at_ cs n vs→∀j u,vs[j]?=some u→cs[n+j]?=some u
 | [],_,_,j,u,h=>by simp at h
 | v::vs,n,hh,0,u,h=>by
  simp only[List.getElem?_cons_zero,Option.some.injEq] at h
  subst h;rw[Nat.add_zero,←eQ];exact hh.1
 | v::vs,n,hh,j+1,u,h=>by
  simp only[List.getElem?_cons_succ] at h
  have:=am hh.2 j u h
  rwa[show n+1+j=n+(j+1) by omega] at this
theorem run_isAggF{T:TypeId}{a:Addr}{w:World}(hag:∀w,(isAgg T).run P w=.ok false w)(h:w.cell? a=some v):(loadVar T a).run P w=.ok v w:=by simp[loadVar,hag,h]
theorem ft{T:TypeId}{a:Addr}{w:World}{vs:List Value}(hag:∀w,(isAgg T).run P w=.ok true w)(hs:∀w,(sizeOf T).run P w=.ok vs.length w)(h:∀j u,vs[j]?=some u→w.cell? (a.add j)=some u):(loadVar T a).run P w=.ok (.agg vs.toArray) w:=by simp[loadVar,hag,hs,run_loadCells_list w a vs h]
theorem RL.load{p:Addr}(hag:∀w,(isAgg t).run P w=.ok false w:=by exact KA.h)(ho:b7 L i=some ⟨some d,.load t x,ty,pos,af,g⟩)(hw:aG L E ⟨some d,.load t x,ty,pos,af,g⟩=true:=by exact rfl)(hN:Nat.blt d N.n=true:=by exact rfl)
  (hx:E.ev x=some (.pointer (some p)):=by exact rfl) (hr:Rd I H p v) (h:RL P L ef bk tq Q l N ((d,v)::E) w0 S I H) (ht:tq.l.contains i=false:=by rfl):RL P L ef bk tq Q (.cons i l) N E w0 S I H:=
 RL.val ho hw rfl hN (fun _ w ha hC=>by
  simp[execOp,ha.ev hx,Instr.loadAt,Instr.sureAddr,run_isAggF hag (hr w hC.s)]) h rfl ht
theorem RL.loadT{p:Addr}(hag:∀w,(isAgg t).run P w=.ok false w)(ho:b7 L i=some ⟨some d,.load t x,ty,pos,af,g⟩)(hw:aG L E ⟨some d,.load t x,ty,pos,af,g⟩=true)(hN:Nat.blt d N.n=true)
  (hx:E.ev x=some (.pointer (some p))) (hr:Rd tq.T [] p v) (h:RL P L ef bk tq Q l N ((d,v)::E) w0 S I H):RL P L ef bk tq Q (.cons i l) N E w0 S I H:=
 RL.toldV ho hw rfl hN (fun _ w ha hC=>by
  simp[execOp,ha.ev hx,Instr.loadAt,Instr.sureAddr,run_isAggF hag (hr w ⟨hC,by simp,by simp,by simp⟩)]) h
theorem ak{p:Addr}{vs:List Value}(hag:∀w,(isAgg t).run P w=.ok true w:=by exact KA.h)(hs:∀w,(sizeOf t).run P w=.ok vs.length w:=by exact KS.h)(ho:b7 L i=some ⟨some d,.load t x,ty,pos,af,g⟩)(hw:aG L E ⟨some d,.load t x,ty,pos,af,g⟩=true:=by exact rfl)(hN:Nat.blt d N.n=true:=by exact rfl)
  (hx:E.ev x=some (.pointer (some p)):=by exact rfl) (hr:Rds I H p vs) (h:RL P L ef bk tq Q l N ((d,.agg vs.toArray)::E) w0 S I H) (ht:tq.l.contains i=false:=by rfl):RL P L ef bk tq Q (.cons i l) N E w0 S I H:=
 RL.val ho hw rfl hN (fun _ w ha hC=>by
  simp[execOp,ha.ev hx,Instr.loadAt,Instr.sureAddr,ft hag hs (hr w hC.s)]) h rfl ht
theorem eB{p:Addr}{vs:List Value}(hag:∀w,(isAgg t).run P w=.ok true w:=by exact KA.h)(hs:∀w,(sizeOf t).run P w=.ok vs.length w:=by exact KS.h)(ho:b7 L i=some ⟨some d,.load t x,ty,pos,af,g⟩)(hw:aG L E ⟨some d,.load t x,ty,pos,af,g⟩=true)(hN:Nat.blt d N.n=true)
  (hx:E.ev x=some (.pointer (some p))) (hr:Rds tq.T [] p vs) (h:RL P L ef bk tq Q l N ((d,.agg vs.toArray)::E) w0 S I H):RL P L ef bk tq Q (.cons i l) N E w0 S I H:=
 RL.toldV ho hw rfl hN (fun _ w ha hC=>by
  simp[execOp,ha.ev hx,Instr.loadAt,Instr.sureAddr,ft hag hs (hr w ⟨hC,by simp,by simp,by simp⟩)]) h
theorem RL.fieldAddr{b off fo:Nat}{j:Nat}(hf:∀p w,(Instr.fieldAt t (.pointer (some p)) j).run P w=.ok (.pointer (some (p.add fo))) w)(ho:b7 L i=some ⟨some d,.fieldAddr t x j,ty,pos,af,g⟩)(hw:aG L E ⟨some d,.fieldAddr t x j,ty,pos,af,g⟩=true)(hN:Nat.blt d N.n=true)
  (hx:E.ev x=some (.pointer (some ⟨b,off,none⟩))) (h:RL P L ef bk tq Q l N ((d,.pointer (some ⟨b,off+fo,none⟩))::E) w0 S I H):RL P L ef bk tq Q (.cons i l) N E w0 S I H:=
 bN ho hw rfl hN (fun _ w ha=>by
  simp[execOp,ha.ev hx,hf,bn]) h
def bP:List Value→Nat→List Value→List Value
 | [],_,_=>[]
 | c::cs,n+1,vs=>c::bP cs n vs
 | c::cs,0,[]=>c::cs
 | _::cs,0,v::vs=>v::bP cs 0 vs
theorem gD:∀(cs:List Value) (n:Nat) (vs:List Value),(bP cs n vs).length=cs.length
 | [],_,_=>rfl
 | c::cs,n+1,vs=>by simp[bP,gD cs n vs]
 | c::cs,0,[]=>rfl
 | c::cs,0,v::vs=>by simp[bP,gD cs 0 vs]
theorem dH:∀(cs:List Value) (n:Nat) (vs:List Value),n+vs.length≤cs.length→bP cs n vs=cs.take n++vs++cs.drop (n+vs.length)
 | [],n,vs,h=>by
  have h1:n=0:=by simp at h;omega
  have h2:vs=[]:=by simp at h;exact h.2
  subst h1;subst h2;rfl
 | c::cs,n+1,vs,h=>by
  have:=dH cs n vs (by simp at h;omega)
  rw[show n+1+vs.length=(n+vs.length)+1 by omega]
  simp[bP,this]
 | c::cs,0,[],_=>rfl
 | c::cs,0,v::vs,h=>by
  have:=dH cs 0 vs (by simp at h ⊢;omega)
  simp only[List.take_zero,List.nil_append,Nat.zero_add] at this
  simp[bP,this]
inductive Upd:List It→It→It→List It→Prop
 | here {x x':It} {H:List It}:Upd (x::H) x x' (x'::H)
 | there {x x' y:It} {H H':List It} (h:Upd H x x' H'):Upd (y::H) x x' (y::H')
theorem uE{H:List It}{x y:It}{H':List It}(h:Upd H x y H':=by repeat (first|exact Upd.here|apply Upd.there)):Upd H x y H':=h
theorem Upd.mem{H H':List It}{x x':It}(h:Upd H x x' H'):x∈H:=by
 induction h with
 | here=>simp
 | there h ih=>simp[ih]
theorem Upd.bss{H H':List It}{x x':It}(h:Upd H x x' H')(hb:x'.bs=x.bs):bss H'=bss H:=by
 induction h with
 | here=>simp[hb]
 | there h ih=>simp[ih hb]
theorem Upd.A{H H':List It}{x x':It}(h:Upd H x x' H'){w w':World}(hA:∀y∈H,y.A w)(hk:Keeps x.bs w w')(hnd:(PK.bss H).Nodup)(hx:x'.A w'):∀y∈H',y.A w':=by
 induction h with
 | here=>
  intro y hy;rename_i H;rcases List.mem_cons.1 hy with rfl|hy
  ·exact hx
  ·refine It.grow (hA y (by simp[hy])) hk fun b hb hbx=>?_;rw[bM,List.nodup_append] at hnd;exact hnd.2.2 b hbx b (mem_bss.2 ⟨y,hy,hb⟩) rfl
 | there h ih=>
  rename_i z H H';rw[bM,List.nodup_append] at hnd;intro y hy;rcases List.mem_cons.1 hy with rfl|hy
  ·refine It.grow (hA y (by simp)) hk fun b hb hbx=>?_;exact hnd.2.2 b hb b (mem_bss.2 ⟨_,h.mem,hbx⟩) rfl
  ·exact ih (fun y hy=>hA y (by simp[hy])) hk hnd.2.1 hx y hy
theorem Cls.upd{H':List It}{x x':It}{w w':World}(h:Cls w0 S I H w)(hu:Upd H x x' H')(hk:Keeps x.bs w w')(hb:x'.bs=x.bs)(hx:x'.A w'):Cls w0 S I H' w':=by
 have hin:∀b∈x.bs,b∈bss H:=fun b hb=>mem_bss.2 ⟨x,hu.mem,hb⟩;refine⟨⟨hk.os.trans h.k.os,hk.tape.trans h.k.tape,hk.output.trans h.k.output,Nat.le_trans h.k.size hk.size,fun b hlt hbS=>?_,Nat.le_trans h.k.drawn hk.drawn⟩,⟨fun y hy=>?_,hu.A h.s.h hk h.s.nd hx,?_,?_⟩,?_⟩
 ·rw[hk.block b (Nat.lt_of_lt_of_le hlt h.k.size) (fun hbx=>hbS (h.own b (hin b hbx) hlt)),h.k.block b hlt hbS]
 ·exact It.grow (h.s.i y hy) hk fun b hb' hbx=>h.s.dj b (mem_bss.2 ⟨y,hy,hb'⟩) (hin b hbx)
 ·rw[hu.bss hb];exact h.s.nd
 ·rw[hu.bss hb];exact h.s.dj
 ·rw[hu.bss hb];exact h.own
theorem RL.turn0{o:Oper}{H':List It}{x x':It}(ho:b7 L i=some o)(hw:aG L E o=true)(hi:ef.contains i=true)(hb:bk.contains i=true)(hd:o.dst=none)(hu:Upd H x x' H')(hbs:x'.bs=x.bs)(hv:∀a w,Ag N a E→Cls w0 S I H w→∃w',(execOp a.eval o).run P w=.ok .skip w'∧Keeps x.bs w w'∧x'.A w')(h:RL P L ef bk tq Q l N E w0 S I H'):RL P L ef bk tq Q (.cons i l) N E w0 S I H:=by refine RL.eff0 ho hw hi hd (fun a w ha hC=>?_);obtain⟨w',h1,h2,h3⟩:=hv a w ha hC;unfold dD;rw[h1];exact⟨I,H',hC.upd hu h2 hbs h3,fun _ h=>h,fun h=>(by rw[hb] at h;cases h),h⟩
theorem Keeps.setRow{w:World}{b:Nat}{cs:Array Value}:Keeps [b] w (w.setRow b cs):=
 ⟨rfl,rfl,rfl,by simp,fun c _ hn=>setRow_other w b c cs (by simpa using hn),Nat.le_refl _⟩
theorem cells_one{v:Value}(h:v.oneCell'=true):v.cells= #[v]:=by cases v<;>simp_all [Value.oneCell',Value.cells]
def dO:List Value→Bool
 | []=>true
 | u::r=>u.oneCell'&&dO r
theorem dI:∀ {l:List Value},dO l=true→∀u∈l,u.oneCell'=true
 | [],_,u,h=>by cases h
 | v::r,ho,u,h=>by
  simp only[dO,Bool.and_eq_true] at ho
  rcases List.mem_cons.1 h with rfl|h
  ·exact ho.1
  ·exact dI ho.2 u h
theorem RL.store{b off:Nat}{cs vs:List Value}{T:TypeId}{H':List It}(hs:∀w,(sizeOf t).run P w=.ok vs.length w)(ho:b7 L i=some ⟨none,.store t x y,ty,pos,af,g⟩)(hw:aG L E ⟨none,.store t x y,ty,pos,af,g⟩=true)
  (hi:ef.contains i=true) (hb:bk.contains i=true) (hx:E.ev x=some (.pointer (some ⟨b,off,none⟩))) (hy:E.ev y=some v) (hc:v.cells=vs.toArray) (h1:dO vs=true) (hl:Nat.ble (off+vs.length) cs.length=true)
  (hu:Upd H (cel b cs T) (cel b (bP cs off vs) T) H') (h:RL P L ef bk tq Q l N E w0 S I H'):RL P L ef bk tq Q (.cons i l) N E w0 S I H:=
 RL.turn0 ho hw hi hb rfl hu rfl (fun a w ha hC=>by
  have hA:w.heap[b]?=some (.cells cs.toArray T (0,0)):=hC.s.h _ hu.mem
  have hl:off+vs.length≤cs.length:=by simpa using hl
  have hst:=run_storeCells_at P b off T vs 0 cs.toArray w hA (by simpa using hl) (dI h1)
  refine⟨w.setRow b (bP cs off vs).toArray,?_,Keeps.setRow,setRow_heap w b _ _ T _ hA⟩
  simp only[Nat.add_zero] at hst
  rw[dH cs off vs hl]
  simp[execOp,ha.ev hx,ha.ev hy,Instr.storeAt,Instr.sureAddr,storeVar,hs,hc,hst]) h
end
section
variable {P:Program} {L:List Oper} {ef bk:List Nat} {tq:Tq} {Q:Exit→Act→World→Prop} {N:Fm} {E:Env} {w0:World} {S:List Nat} {I H:List It} {i:Nat} {l:Sq}
variable {d:Nat} {x y z:Operand} {ty t yt:TypeId} {pos:String} {af:Array Edge} {g:Option (Nat×Bool)} {v:Value} {k k':IntKind} {m n:Int}
def iN(E:Env):List (Nat×Operand)→Option (List (Nat×Value))
 | []=>some []
 | (j,x)::r=>match E.ev x,iN E r with
  | some v,some vs=>some ((j,v)::vs)
  | _,_=>none
theorem Ag.parts{a:Act}(h:Ag N a E):∀ {xs:List (Nat×Operand)} {vs:List (Nat×Value)},iN E xs=some vs→xs.map (fun p=>(p.1,a.eval p.2))=vs
 | [],vs,hx=>by cases hx;rfl
 | (j,x)::r,vs,hx=>by
  unfold iN at hx
  split at hx
  ·rename_i v vs' h1 h2
   cases hx
   rw[List.map_cons,h.ev h1,Ag.parts h h2]
  ·cases hx
def bX(place:Nat→Option (Nat×Nat))(cells:List Value):List (Nat×Value)→Option (List Value)
 | []=>some cells
 | (j,v)::rest=>match place j with
  | none=>none
  | some (off,size)=>
   if v.cells.toList.length≠size||off+v.cells.toList.length>cells.length then none
   else bX place (bP cells off v.cells.toList) rest
theorem fold_spl:∀(vs:List Value) (cells:Array Value) (off b:Nat),off+b+vs.length≤cells.size→
  ((vs.zipIdx b).foldl (fun cs (c,j)=>cs.setIfInBounds (off+j) c) cells).toList=bP cells.toList (off+b) vs
 | [],cells,off,b,_=>by
  rw[dH _ _ _ (by simpa using(by assumption:off+b+([]:List Value).length≤cells.size))]
  simp
 | c::vs,cells,off,b,h=>by
  simp only[List.length_cons] at h
  simp only[List.zipIdx_cons,List.foldl_cons]
  rw[fold_spl vs _ off (b+1) (by simp;omega)]
  rw[dH _ _ _ (by simp;omega),dH _ _ _ (by simp;omega)]
  apply List.ext_getElem?
  intro j
  simp only[Array.toList_setIfInBounds,List.length_cons]
  rw[List.getElem?_append,List.getElem?_append,List.getElem?_append,List.getElem?_append]
  simp only[List.length_append,List.length_take,List.length_set,Array.length_toList,List.getElem?_take,List.getElem?_set,List.getElem?_drop,List.length_cons]
  by_cases h1:j<off+b
  ·have a1:j<off+(b+1):=by omega
   have a2:j<cells.size:=by omega
   have a3:j<min (off+(b+1)) cells.size+vs.length:=by omega
   have a4:j<min (off+b) cells.size+(vs.length+1):=by omega
   have a5:j<min (off+(b+1)) cells.size:=by omega
   have a6:j<min (off+b) cells.size:=by omega
   have a7: ¬off+b=j:=by omega
   simp[h1,a1,a3,a4,a5,a6,a7]
  ·by_cases h2:j=off+b
   ·subst h2
    have a3:off+b<min (off+(b+1)) cells.size+vs.length:=by omega
    have a4:off+b<min (off+b) cells.size+(vs.length+1):=by omega
    have a5:off+b<min (off+(b+1)) cells.size:=by omega
    have a6: ¬off+b<min (off+b) cells.size:=by omega
    have a7:off+b<cells.size:=by omega
    have a8:off+b<off+(b+1):=by omega
    have a9:off+b-min (off+b) cells.size=0:=by omega
    simp only[a3,a4,a5,a6,a7,a8,a9,if_true,if_false,List.getElem?_cons_zero]
   ·have a5: ¬j<min (off+(b+1)) cells.size:=by omega
    have a6: ¬j<min (off+b) cells.size:=by omega
    by_cases h3:j<off+b+(vs.length+1)
    ·have a3:j<min (off+(b+1)) cells.size+vs.length:=by omega
     have a4:j<min (off+b) cells.size+(vs.length+1):=by omega
     have a9:j-min (off+b) cells.size=(j-min (off+(b+1)) cells.size)+1:=by omega
     simp only[a3,a4,a5,a6,a9,if_true,if_false,List.getElem?_cons_succ]
    ·have a3: ¬j<min (off+(b+1)) cells.size+vs.length:=by omega
     have a4: ¬j<min (off+b) cells.size+(vs.length+1):=by omega
     have a7: ¬off+b=off+(b+1)+vs.length+(j-(min (off+(b+1)) cells.size+vs.length)):=by omega
     simp only[a3,a4,a7,if_false]
     congr 1
     omega
theorem fill_eq(place:Nat→Option (Nat×Nat)):∀(parts:List (Nat×Value)) (cells:List Value) (r:List Value),bX place cells parts=some r→Instr.fill place cells.toArray parts=some r.toArray
 | [],cells,r,h=>by cases h;rfl
 | (j,v)::rest,cells,r,h=>by
  unfold bX at h
  unfold Instr.fill
  split at h
  ·cases h
  ·rename_i off size hp
   rw[hp]
   split at h
   ·cases h
   ·rename_i hc
    have hc': ¬((decide (v.cells.size≠size)||decide (off+v.cells.size>cells.toArray.size))=true):=by simpa using hc
    dsimp only
    rw[if_neg hc']
    have hb:off+v.cells.toList.length≤cells.length:=by
     simp only[Bool.or_eq_true,decide_eq_true_eq,not_or] at hc;omega
    have hf:=fold_spl v.cells.toList cells.toArray off 0 (by simpa using hb)
    have he:Array.foldl (fun cs (x:Value×Nat)=>match x with|(c,j)=>cs.setIfInBounds (off+j) c) cells.toArray v.cells.zipIdx=(bP cells off v.cells.toList).toArray:=by
     apply Array.toList_inj.1
     rw[←Array.foldl_toList]
     simpa using hf
    have:=fill_eq place rest _ _ h
    rw[←this]
    exact congrArg (fun c=>Instr.fill place c rest) he
theorem map_parts{a:Act}(h:Ag N a E){ps:Array (Nat×Operand)}{vs:List (Nat×Value)}(hx:iN E ps.toList=some vs):(ps.map fun(j,x)=>(j,a.eval x))=vs.toArray:=by apply Array.toList_inj.1;rw[Array.toList_map,←h.parts hx]
def StrT(P:Program)(t:TypeId)(places:Array (Nat×Nat)):Prop:=
 ∃fs,(∀w,(underlying t).run P w=.ok (.struct fs) w)∧∀w,(fs.mapM (fun f=>do pure (f.offset,←sizeOf f.type):Field→Sem (Nat×Nat))).run P w=.ok places w
class KP(P:Program)(t:TypeId)(ps:outParam (Array (Nat×Nat))):Prop where
 h:StrT P t ps
theorem ay{places:Array (Nat×Nat)}{zs:List Value}{ps:Array (Nat×Operand)}{vs:List (Nat×Value)}(cs:List Value)(hz:∀w,(zeroValue t).run P w=.ok (.agg zs.toArray) w:=by exact KZ.h)(hu:StrT P t places:=by exact KP.h)
  (ho:b7 L i=some ⟨some d,.build t ps,ty,pos,af,g⟩) (hw:aG L E ⟨some d,.build t ps,ty,pos,af,g⟩=true:=by exact rfl) (hN:Nat.blt d N.n=true:=by exact rfl)
  (hx:iN E ps.toList=some vs:=by exact rfl) (hf:bX (places[·]?) zs vs=some cs:=by exact rfl) (h:RL P L ef bk tq Q l N ((d,.agg cs.toArray)::E) w0 S I H):RL P L ef bk tq Q (.cons i l) N E w0 S I H:=
 bN ho hw rfl hN (fun a w ha=>by
  obtain⟨fs,hu,hp⟩:=hu
  have h2:=fill_eq (places[·]?) vs zs cs hf
  show Sem.run P (do pure (Next.value (←Instr.build t (ps.map fun(j,x)=>(j,a.eval x))))) w=_
  rw[map_parts ha hx]
  simp only[Instr.build,Sem.run_bind,hz,hu,hp,Result.andThen_ok,Value.cells,h2,Sem.run_pure]) h
theorem bi{len:Nat}{e:TypeId}{size:Nat}{zs:List Value}{ps:Array (Nat×Operand)}{vs:List (Nat×Value)}(cs:List Value)(hz:∀w,(zeroValue t).run P w=.ok (.agg zs.toArray) w:=by exact KZ.h)(hu:∀w,(underlying t).run P w=.ok (.array len e) w:=by exact KU.h)
  (hs:∀w,(sizeOf e).run P w=.ok size w:=by exact KS.h)
  (ho:b7 L i=some ⟨some d,.build t ps,ty,pos,af,g⟩) (hw:aG L E ⟨some d,.build t ps,ty,pos,af,g⟩=true:=by exact rfl) (hN:Nat.blt d N.n=true:=by exact rfl)
  (hx:iN E ps.toList=some vs:=by exact rfl) (hf:bX (fun j=>some (j*size,size)) zs vs=some cs:=by exact rfl) (h:RL P L ef bk tq Q l N ((d,.agg cs.toArray)::E) w0 S I H):RL P L ef bk tq Q (.cons i l) N E w0 S I H:=
 bN ho hw rfl hN (fun a w ha=>by
  have h2:=fill_eq (fun j=>some (j*size,size)) vs zs cs hf
  show Sem.run P (do pure (Next.value (←Instr.build t (ps.map fun(j,x)=>(j,a.eval x))))) w=_
  rw[map_parts ha hx]
  simp[Instr.build,hz,hu,hs,Value.cells,h2]) h
def cT(zs:List Value):Nat→List Value
 | 0=>[]
 | n+1=>zs++cT zs n
theorem run_buildSlice{e:TypeId}{size len:Nat}{zs:List Value}{ps:Array (Nat×Operand)}{vs:List (Nat×Value)}{z:Value}(cs:List Value)(hu:∀w,(underlying t).run P w=.ok (.slice e) w)(hs:∀w,(sizeOf e).run P w=.ok size w)(hz:∀w,(zeroValue e).run P w=.ok z w)(hzc:z.cells=zs.toArray)(hsz:zs.length=size)(hpos:0<size)(hlen:len*size≤16777216){a:Act}{w:World}(ha:Ag N a E)(hx:iN E ps.toList=some vs)(hf:bX (fun j=>some (j*size,size)) (cT zs len) vs=some cs):∃w',(execOp a.eval ⟨some d,.buildSlice t len ps,ty,pos,af,g⟩).run P w=.ok (.value (.slice (some ⟨w.heap.size,0,none⟩) len len)) w'∧Grow w w'∧(cel w.heap.size cs e).A w':=by
 refine⟨w.alloc (.cells cs.toArray e),?_,Keeps.alloc _ _ _,cel_new⟩;have h2:=fill_eq (fun j=>some (j*size,size)) vs (cT zs len) cs hf
 have hrl:∀n,(cT zs n).length=n*size:=by
  intro n;induction n with
  | zero=>simp[cT]
  | succ n ih=>simp[cT,ih,hsz,Nat.add_mul];omega
 have hrg:∀n j,j<n*size→(cT zs n)[j]?=zs[j%size]?:=by
  intro n;induction n with
  | zero=>intro j hj;simp at hj
  | succ n ih=>
   intro j hj;simp only[cT,List.getElem?_append,hsz];by_cases hjs:j<size
   ·simp[hjs,Nat.mod_eq_of_lt hjs]
   ·have hge:size≤j:=by omega
    simp only[hjs,if_false];rw[ih (j-size) (by rw[Nat.add_mul] at hj;omega)];rw[Nat.mod_eq_sub_mod hge]
 have hlen': ¬(len*size>2^24):=by omega
 show Sem.run P (do pure (Next.value (←Instr.buildSlice t len (ps.map fun(j,x)=>(j,a.eval x))))) w=_;rw[map_parts ha hx];by_cases h0:len*size=0
 ·have hrn:cT zs len=[]:=List.eq_nil_of_length_eq_zero (by rw[hrl,h0]);rw[hrn] at h2;simp[Instr.buildSlice,hu,hs,h0,newRow,h2,show Array.range 0= #[] from rfl]
 ·have hzz:((Array.range (len*size)).map fun j=>zs.toArray[j%zs.length]!)=(cT zs len).toArray:=by
   apply Array.ext';apply List.ext_getElem?;intro j;simp only[Array.toList_map,Array.toList_range,List.getElem?_map];by_cases hj:j<len*size
   ·have hjm:j%zs.length<zs.length:=by rw[hsz];exact Nat.mod_lt _ hpos
    have hr:=hrg len j hj;rw[←hsz] at hr;simp[hj,hr,hjm]
   ·have hj':(cT zs len)[j]?=none:=by rw[List.getElem?_eq_none];rw[hrl];omega
    simp[hj,hj']
  have hl2:(len*size>2^24)=False:=by simpa using hlen'
  simp only[Instr.buildSlice,Sem.run_bind,hu,hs,hz,Result.andThen_ok,hl2,if_false,h0,Sem.run_pure,newRow,hzc,List.size_toArray,hzz,h2];simp
theorem RL.buildSlice{e:TypeId}{size len:Nat}{zs:List Value}{ps:Array (Nat×Operand)}{vs:List (Nat×Value)}{z:Value}(cs:List Value)(hu:∀w,(underlying t).run P w=.ok (.slice e) w:=by exact KU.h)(hs:∀w,(sizeOf e).run P w=.ok size w:=by exact KS.h)
  (hz:∀w,(zeroValue e).run P w=.ok z w:=by exact KZ.h) (hzc:z.cells=zs.toArray:=by exact rfl) (hsz:zs.length=size:=by exact rfl) (hpos:0<size:=by decide) (hlen:len*size≤16777216:=by decide)
  (ho:b7 L i=some ⟨some d,.buildSlice t len ps,ty,pos,af,g⟩) (hw:aG L E ⟨some d,.buildSlice t len ps,ty,pos,af,g⟩=true:=by exact rfl) (hN:Nat.blt d N.n=true:=by exact rfl) (hi:ef.contains i=true:=by exact rfl)
  (hx:iN E ps.toList=some vs:=by exact rfl) (hf:bX (fun j=>some (j*size,size)) (cT zs len) vs=some cs:=by exact rfl)
  (h:∀b,RL P L ef bk tq Q l N ((d,.slice (some ⟨b,0,none⟩) len len)::E) w0 S I (cel b cs e::H)):RL P L ef bk tq Q (.cons i l) N E w0 S I H:=
 RL.make (x:=fun b=>cel b cs e) (u:=fun b=>.slice (some ⟨b,0,none⟩) len len) ho hw hi rfl hN (fun a w ha _=>by
  obtain⟨w',h1,h2,h3⟩:=run_buildSlice cs hu hs hz hzc hsz hpos hlen (pos:=pos) (ty:=ty) (af:=af) (g:=g) (d:=d) (w:=w) ha hx hf
  exact⟨w',h1,h2,h3,rfl⟩) h
end
abbrev aE(ob:Option Nat)(n cap:Nat):Value:=.slice (ob.map fun b=>⟨b,0,none⟩) n cap
def own(ob:Option Nat)(cap:Nat)(e:TypeId)(sz n:Nat)(xs:List Value):It where
 bs:=ob.toList
 A w:=xs.length=n*sz∧match ob with
  | none=>n=0∧cap=0
  | some b=>n≤cap∧cap≤maxLen∧∃rest:List Value,(∃f:Nat×Nat,w.heap[b]?=some (.cells (xs++rest).toArray e f)∧(f=(0,0)∨cap*sz≤f.1))∧(xs++rest).length=cap*sz
 fr w w' h hA:=by
  cases ob with
  | none=>exact hA
  | some b=>
   obtain⟨h1,h2,h3,rest,⟨f,h4,h6⟩,h5⟩:=hA
   exact⟨h1,h2,h3,rest,⟨f,by rw[h b (by simp)];exact h4,h6⟩,h5⟩
 lt w hA c hc:=by
  cases ob with
  | none=>simp at hc
  | some b=>
   obtain⟨h1,h2,h3,rest,⟨f,h4,h6⟩,h5⟩:=hA
   have:c=b:=by simpa using hc
   subst this
   exact(Array.getElem?_eq_some_iff.1 h4).1
def sls(p:Option Addr)(sz n:Nat)(xs:List Value):It where
 bs:=if n=0 then [] else p.toList.map (·.block)
 A w:=xs.length=n*sz∧match p with
  | none=>n=0
  | some a=>(n≠0→a.block<w.heap.size)∧∀j u,xs[j]?=some u→w.cell? (a.add j)=some u
 fr w w' h hA:=by
  cases p with
  | none=>exact hA
  | some a=>
   obtain⟨h1,h2,h3⟩:=hA
   by_cases hn:n=0
   ·subst hn
    have:xs=[]:=List.eq_nil_of_length_eq_zero (by simpa using h1)
    subst this
    exact⟨h1,fun h=>absurd rfl h,fun j u hj=>by simp at hj⟩
   ·have hb:=h a.block (by simp[hn])
    have h2':=h2 hn
    refine⟨h1,fun _=>?_,fun j u hj=>?_⟩
    ·rw[Array.getElem?_eq_getElem h2'] at hb
     exact(Array.getElem?_eq_some_iff.1 hb).1
    ·have:=h3 j u hj
     have hbl:(a.add j).block=a.block:=by unfold Addr.add;split<;>rfl
     simp only[World.cell?,hbl] at this ⊢
     rw[hb];exact this
 lt w hA c hc:=by
  by_cases hn:n=0
  ·simp[hn] at hc
  ·cases p with
   | none=>simp[hn] at hc
   | some a=>
    have:c=a.block:=by simpa[hn] using hc
    subst this
    exact hA.2.1 hn
theorem bf{p:Option Addr}{sz n:Nat}{xs:List Value}{w:World}(h:(sls p sz n xs).A w)(hp:p=none):n=0:=by subst hp;exact h.2
theorem ia{ob:Option Nat}{cap sz n:Nat}{e:TypeId}{xs:List Value}{w:World}(h:(own ob cap e sz n xs).A w):(sls (ob.map fun b=>⟨b,0,none⟩) sz n xs).A w:=by
 cases ob with
 | none=>exact⟨h.1,h.2.1⟩
 | some b=>obtain⟨h1,h2,h3,rest,⟨f,h4,h6⟩,h5⟩:=h;refine⟨h1,fun _=>(Array.getElem?_eq_some_iff.1 h4).1,fun j u hj=>?_⟩;have hlt:j<xs.length:=(List.getElem?_eq_some_iff.1 hj).1;rw[bn];simp only[World.cell?,h4];simp[List.getElem?_append,hlt,(List.getElem?_eq_some_iff.1 hj).2]
theorem cel_sls{b off sz n:Nat}{cs xs:List Value}{T:TypeId}{w:World}(h:(cel b cs T).A w)(hl:xs.length=n*sz)(hx:∀j u,xs[j]?=some u→cs[off+j]?=some u):(sls (some ⟨b,off,none⟩) sz n xs).A w:=
 ⟨hl,fun _=>(Array.getElem?_eq_some_iff.1 h).1,fun j u hj=>by rw[bn,dM h];exact hx j u hj⟩
theorem own_of_cel{b sz n cap:Nat}{cs:List Value}{T:TypeId}{w:World}(h:(cel b cs T).A w)(hn:n≤cap)(hm:cap≤maxLen)(hl:cs.length=cap*sz):(own (some b) cap T sz n (cs.take (n*sz))).A w:=by
 refine⟨by rw[List.length_take,hl];exact Nat.min_eq_left (Nat.mul_le_mul_right _ hn),hn,hm,cs.drop (n*sz),?_,?_⟩
 ·exact⟨_,by rw[List.take_append_drop];exact h,.inl rfl⟩
 ·rw[List.take_append_drop];exact hl
section
variable {P:Program} {L:List Oper} {ef bk:List Nat} {tq:Tq} {Q:Exit→Act→World→Prop} {N:Fm} {E:Env} {w0:World} {S:List Nat} {I H:List It} {i:Nat} {l:Sq}
variable {d:Nat} {x y z:Operand} {ty t yt:TypeId} {pos:String} {af:Array Edge} {g:Option (Nat×Bool)} {v:Value} {k k':IntKind} {m n:Int}
theorem Cls.conv{x x':It}{H':List It}{w:World}(h:Cls w0 S I H w)(hu:Upd H x x' H')(hb:x'.bs=x.bs)(hA:x.A w→x'.A w):Cls w0 S I H' w:=
 h.upd hu (Keeps.refl _ _) hb (hA (h.s.h _ hu.mem))
theorem Rds.sls{p:Addr}{sz n:Nat}{xs:List Value}(hm:PK.sls (some p) sz n xs∈I):Rds I H p xs:=fun _ hw=>(hw.i _ hm).2.2
theorem Rds.own{b cap sz n:Nat}{e:TypeId}{xs:List Value}(hm:PK.own (some b) cap e sz n xs∈H):Rds I H ⟨b,0,none⟩ xs:=fun _ hw=>(ia (hw.h _ hm)).2.2
theorem Rds.rd{p:Addr}{xs:List Value}{j:Nat}(h:Rds I H p xs)(hj:xs[j]?=some v):Rd I H (p.add j) v:=fun w hw=>h w hw j v hj
theorem add_add(p:Addr)(j q:Nat):(p.add j).add q=p.add (j+q):=by
 unfold Addr.add;by_cases h1:j=0
 ·subst h1;simp
 ·by_cases h2:q=0
  ·subst h2;simp[h1]
  ·have: ¬j+q=0:=by omega
   simp[h1,h2,Nat.add_assoc]
theorem Rds.part{p:Addr}{xs vs:List Value}{j:Nat}(h:Rds I H p xs)(hj:∀q u,vs[q]?=some u→xs[j+q]?=some u):Rds I H (p.add j) vs:=fun w hw q u hu=>by
 have:=h w hw (j+q) u (hj q u hu)
 rw[add_add];exact this
theorem aS{e:TypeId}{p:Addr}{len cap sz j:Nat}(hu:∀w,(underlying t).run P w=.ok (.slice e) w:=by exact KU.h)(hs:∀w,(sizeOf e).run P w=.ok sz w:=by exact KS.h)(ho:b7 L i=some ⟨some d,.indexAddr t x y,ty,pos,af,g⟩)(hw:aG L E ⟨some d,.indexAddr t x y,ty,pos,af,g⟩=true:=by exact rfl)(hN:Nat.blt d N.n=true:=by exact rfl)
  (hx:E.ev x=some (.slice (some p) len cap):=by exact rfl) (hy:E.ev y=some (.int k n):=by exact rfl) (hj:n=(j:Int):=by exact rfl) (hlt:j<len:=by omega) (h:RL P L ef bk tq Q l N ((d,.pointer (some (p.add (j*sz))))::E) w0 S I H):RL P L ef bk tq Q (.cons i l) N E w0 S I H:=
 bN ho hw rfl hN (fun _ w ha=>by
  subst hj
  have h2: ¬len≤j:=by omega
  simp[execOp,ha.ev hx,ha.ev hy,Instr.indexAt,hu,hs,asIntOf,hlt]) h
theorem RL.idxA{e:TypeId}{p:Addr}{len sz j:Nat}(hu:∀w,(underlying t).run P w=.ok (.array len e) w)(hs:∀w,(sizeOf e).run P w=.ok sz w)(ho:b7 L i=some ⟨some d,.indexAddr t x y,ty,pos,af,g⟩)(hw:aG L E ⟨some d,.indexAddr t x y,ty,pos,af,g⟩=true)(hN:Nat.blt d N.n=true)
  (hx:E.ev x=some (.pointer (some p))) (hy:E.ev y=some (.int k n)) (hj:n=(j:Int)) (hlt:j<len) (h:RL P L ef bk tq Q l N ((d,.pointer (some (p.add (j*sz))))::E) w0 S I H):RL P L ef bk tq Q (.cons i l) N E w0 S I H:=
 bN ho hw rfl hN (fun _ w ha=>by
  subst hj
  have h2: ¬len≤j:=by omega
  simp[execOp,ha.ev hx,ha.ev hy,Instr.indexAt,Instr.sureAddr,hu,hs,asIntOf,hlt]) h
theorem RL.index{e:TypeId}{cs:Array Value}{len sz j:Nat}(hu:∀w,(underlying t).run P w=.ok (.array len e) w:=by exact KU.h)(hs:∀w,(sizeOf e).run P w=.ok sz w:=by exact KS.h)(hag:∀w,(isAgg e).run P w=.ok false w:=by exact KA.h)(ho:b7 L i=some ⟨some d,.index t x y,ty,pos,af,g⟩)(hw:aG L E ⟨some d,.index t x y,ty,pos,af,g⟩=true)(hN:Nat.blt d N.n=true)
  (hx:E.ev x=some (.agg cs)) (hy:E.ev y=some (.int k n)) (hj:n=(j:Int)) (hlt:j<len) (hv:cs[j*sz]?=some v) (h:RL P L ef bk tq Q l N ((d,v)::E) w0 S I H):RL P L ef bk tq Q (.cons i l) N E w0 S I H:=
 bN ho hw rfl hN (fun _ w ha=>by
  subst hj
  have h2: ¬len≤j:=by omega
  simp[execOp,ha.ev hx,ha.ev hy,Instr.index,hu,hs,asIntOf,hlt,Go.part,hag,hv]) h
theorem RL.indexAgg{e:TypeId}{cs vs:Array Value}{len sz j:Nat}(hu:∀w,(underlying t).run P w=.ok (.array len e) w:=by exact KU.h)(hs:∀w,(sizeOf e).run P w=.ok sz w:=by exact KS.h)(hag:∀w,(isAgg e).run P w=.ok true w:=by exact KA.h)(ho:b7 L i=some ⟨some d,.index t x y,ty,pos,af,g⟩)(hw:aG L E ⟨some d,.index t x y,ty,pos,af,g⟩=true)(hN:Nat.blt d N.n=true)
  (hx:E.ev x=some (.agg cs)) (hy:E.ev y=some (.int k n)) (hj:n=(j:Int)) (hlt:j<len) (hv:cs.extract (j*sz) (j*sz+sz)=vs) (h:RL P L ef bk tq Q l N ((d,.agg vs)::E) w0 S I H):RL P L ef bk tq Q (.cons i l) N E w0 S I H:=
 bN ho hw rfl hN (fun _ w ha=>by
  subst hj
  have h2: ¬len≤j:=by omega
  simp[execOp,ha.ev hx,ha.ev hy,Instr.index,hu,hs,asIntOf,hlt,Go.part,hag,hv]) h
theorem RL.field{cs:Array Value}{j:Nat}(hf:∀w,(Instr.field t (.agg cs) j).run P w=.ok v w)(ho:b7 L i=some ⟨some d,.field t x j,ty,pos,af,g⟩)(hw:aG L E ⟨some d,.field t x j,ty,pos,af,g⟩=true)(hN:Nat.blt d N.n=true)
  (hx:E.ev x=some (.agg cs)) (h:RL P L ef bk tq Q l N ((d,v)::E) w0 S I H):RL P L ef bk tq Q (.cons i l) N E w0 S I H:=
 bN ho hw rfl hN (fun _ w ha=>by simp[execOp,ha.ev hx,hf]) h
def bnd(E:Env):Option Operand→Nat→Option Int
 | none,n=>some n
 | some x,_=>match E.ev x with
  | some (.int _ m)=>some m
  | _=>none
theorem iz{P:Program}{k:IntKind}{j y:Nat}{code:BoundsCode}{w:World}(h:j≤y):(Instr.sliceBound (.int k (j:Int)) y code).run P w=.ok j w:=by simp[Instr.sliceBound,asIntOf,h]
theorem RL.slice {e : TypeId} {p : Option Addr} {len cap sz lo hi : Nat} {ol oh : Option Operand} (hu : ∀ w, (underlying t).run P w = .ok (.slice e) w := by exact KU.h) (hs : ∀ w, (sizeOf e).run P w = .ok sz w := by exact KS.h) (ho : b7 L i = some ⟨some d, .slice t x ol oh none, ty, pos, af, g⟩) (hw : aG L E ⟨some d, .slice t x ol oh none, ty, pos, af, g⟩ = true := by exact rfl) (hN : Nat.blt d N.n = true := by exact rfl)
    (hx : E.ev x = some (.slice p len cap) := by exact rfl) (hl : bnd E ol 0 = some (lo : Int) := by exact rfl) (hh : bnd E oh len = some (hi : Int) := by exact rfl) (h1 : lo ≤ hi := by omega) (h2 : hi ≤ cap := by omega)
    (h : RL P L ef bk tq Q l N ((d, .slice (if cap = lo then p else p.map (·.add (lo * sz))) (hi - lo) (cap - lo)) :: E) w0 S I H) : RL P L ef bk tq Q (.cons i l) N E w0 S I H :=
  bN ho hw rfl hN (fun a w ha => by
    have hb : ∀ (s : BoundsCode), (match oh.map a.eval with | some v => Instr.sliceBound v cap s | none => pure len : Sem Nat).run P w = .ok hi w := by
      intro s
      cases oh with
      | none => simp [bnd] at hh; have : len = hi := by omega
                subst this; rfl
      | some o =>
        simp only [bnd] at hh
        split at hh
        · rename_i kk mm he
          have : mm = (hi : Int) := by simpa using hh
          subst this
          simp only [Option.map_some, ha.ev he]
          exact iz h2
        · cases hh
    have hb2 : ∀ (s : BoundsCode), (match ol.map a.eval with | some v => Instr.sliceBound v hi s | none => pure 0 : Sem Nat).run P w = .ok lo w := by
      intro s
      cases ol with
      | none => simp [bnd] at hl; have : 0 = lo := by omega
                subst this; rfl
      | some o =>
        simp only [bnd] at hl
        split at hl
        · rename_i kk mm he
          have : mm = (lo : Int) := by simpa using hl
          subst this
          simp only [Option.map_some, ha.ev he]
          exact iz h1
        · cases hl
    show Sem.run P (do pure (Next.value (← Instr.sliceAt t (a.eval x) (ol.map a.eval) (oh.map a.eval) none))) w = _
    rw [ha.ev hx]
    have hsb : (Instr.sliceBounds true len cap (ol.map a.eval) (oh.map a.eval) none).run P w = .ok (lo, hi, cap) w := by
      unfold Instr.sliceBounds
      have q1 := hb .sliceAcap
      have q2 := hb2 .sliceB
      cases oh with
      | none =>
        cases ol with
        | none => simp at q1 q2 ⊢; exact ⟨q2, q1⟩
        | some o => simp at q1 q2 ⊢; subst q1; simp [q2]
      | some o' =>
        cases ol with
        | none => simp at q1 q2 ⊢; subst q2; simp [q1]
        | some o => simp at q1 q2 ⊢; simp [q1, q2]
    simp [Instr.sliceAt, Instr.slice, hu, hs, hsb]) h
end
section
variable {P:Program} {L:List Oper} {ef bk:List Nat} {tq:Tq} {Q:Exit→Act→World→Prop} {N:Fm} {E:Env} {w0:World} {S:List Nat} {I H:List It} {i:Nat} {l:Sq}
variable {d:Nat} {x y z:Operand} {ty t yt:TypeId} {pos:String} {af:Array Edge} {g:Option (Nat×Bool)} {v:Value} {k k':IntKind} {m n:Int}
structure ElemT(P:Program)(t e:TypeId)(sz bytes:Nat):Prop where
 ut:P.underlying t=some (.slice e)
 inf:∃i z,P.info? e=some i∧i.zero=some z∧i.size=sz∧i.bytes=bytes∧z.cells.size=sz
 pos:0<sz
class KE(P:Program)(t:TypeId)(e:outParam TypeId)(sz bytes:outParam Nat):Prop where
 h:ElemT P t e sz bytes
theorem eV{ρ:Operand→Value}{dst:Option Tmp}{vx vy:Value}{ats:Array TypeId}(hx:ρ x=vx)(hy:ρ y=vy){r:Value}{w w':World}(h:(Builtin.append_ ats ty #[vx,vy]).run P w=.ok r w'):(execOp ρ ⟨dst,.call ⟨.builtin .append,#[x,y],ats⟩,ty,pos,af,g⟩).run P w=.ok (.value r) w':=by simp only[BigFrame.execOp_builtin,BigFrame.builtin_append,List.map_toArray,List.map_cons,List.map_nil,hx,hy];simp[h]
theorem eR{P:Program}(g o:Nat)(t:TypeId)(f:Nat×Nat):∀(vs:List Value) (i:Nat) (cur:Array Value) (w:World),(f=(0,0)∨cur.size≤f.1)→w.heap[g]?=some (.cells cur t f)→o+i+vs.length≤cur.size→(∀v∈vs,v.oneCell'=true)→
  (storeCells ⟨g,o,none⟩ vs i).run P w=.ok () (w.setRow g (cur.toList.take (o+i)++vs++cur.toList.drop (o+i+vs.length)).toArray)
 | [],i,cur,w,_,hg,_,_=>by
  simp only[storeCells,List.append_nil,List.length_nil,Nat.add_zero,List.take_append_drop,Array.toArray_toList]
  rw[setRow_self w g cur t f hg]
  rfl
 | v::rest,i,cur,w,hf,hg,hl,h1=>by
  have hi:o+i<cur.size:=by simp at hl;omega
  have hadd:(⟨g,o,none⟩:Addr).add i=⟨g,o+i,none⟩:=by unfold Addr.add;split<;>simp_all
  have hcell:w.cell? ⟨g,o+i,none⟩=some cur[o+i]:=by simp[World.cell?,hg,hi]
  have hfro:w.frozen? ⟨g,o+i,none⟩=false:=by
   rcases hf with hf|hf
   ·simp[World.frozen?,hg,hf]
   ·obtain⟨f1,f2⟩:=f
    simp[World.frozen?,hg] at hf ⊢
    omega
  have hst:(store ((⟨g,o,none⟩:Addr).add i) v).run P w=.ok () (w.setRow g (cur.setIfInBounds (o+i) v)):=by
   rw[hadd,run_store P w _ v _ (h1 v (by simp)),hcell]
   simp[hfro,setCell_eq_setRow w g (o+i) cur t f v hg]
  have ih:=eR (P:=P) g o t f rest (i+1) (cur.setIfInBounds (o+i) v) (w.setRow g (cur.setIfInBounds (o+i) v)) (by simpa using hf) (setRow_heap w g cur _ t _ hg) (by simp at hl ⊢;omega) (fun x hx=>h1 x (by simp[hx]))
  simp only[storeCells,Sem.run_bind,hst,Result.andThen_ok,ih,setRow_setRow]
  congr 3
  have e:=list_seg_step cur.toList (o+i) v rest (by simp at hl ⊢;omega)
  simpa[Array.toList_setIfInBounds,Nat.add_assoc] using e
theorem run_append_roomF{P:Program}{t:TypeId}(w:World)(ty e:TypeId)(i:TypeInfo)(ht:P.underlying t=some (.slice e))(hi:P.info? e=some i)(g sLen sCap:Nat)(cur:Array Value)(f:Nat×Nat)(hf:f=(0,0)∨cur.size≤f.1)(hg:w.heap[g]?=some (.cells cur e f))(a:Addr)(m c:Nat)(news:List Value)(hl:news.length=m*i.size)(hnews:∀j u,news[j]?=some u→w.cell? (a.add j)=some u)(h1:∀u∈news,u.oneCell'=true)(hroom:sLen+m≤sCap)(hfit:sLen*i.size+news.length≤cur.size):(Builtin.append_ #[t,t] ty #[.slice (some ⟨g,0,none⟩) sLen sCap,.slice (some a) m c]).run P w=.ok (.slice (some ⟨g,0,none⟩) (sLen+m) sCap) (w.setRow g (cur.toList.take (sLen*i.size)++news++cur.toList.drop (sLen*i.size+news.length)).toArray):=by have hfc:=run_firstCells_some (P:=P) w i.size m a m c news hl hnews;have hst:=eR (P:=P) g (sLen*i.size) e f news 0 cur w hf hg (by simpa using hfit) h1;simp only[Nat.add_zero] at hst;simp[Builtin.append_,run_underlying ht,sizeOf,typeInfo,hi,Builtin.lenOf,hroom,hfc,Addr.add_lit,hst]
theorem run_append{e:TypeId}{sz bytes:Nat}(T:ElemT P t e sz bytes){ob:Option Nat}{cap nn mm c2:Nat}{xs news:List Value}{p2:Option Addr}{w:World}(hA:(own ob cap e sz nn xs).A w)(hl:news.length=mm*sz)(hp:p2=none→mm=0)(hnews:∀a,p2=some a→∀j u,news[j]?=some u→w.cell? (a.add j)=some u)(h1:∀u∈news,u.oneCell'=true)(hm:nn+mm≤maxLen)(hby:(nn+mm)*bytes≤140737488355328):∃ob' cap' w',(Builtin.append_ #[t,t] ty #[aE ob nn cap,.slice p2 mm c2]).run P w=.ok (aE ob' (nn+mm) cap') w'∧(own ob' cap' e sz (nn+mm) (xs++news)).A w'∧Keeps ob.toList w w'∧(∀b∈ob'.toList,b∈ob.toList∨w.heap.size≤b)∧(nn+mm=0∨ob'.isSome=true):=by
 obtain⟨ii,z',hi,hz,hsz,hb,hzs⟩:=T.inf;have hlen:(xs++news).length=(nn+mm)*sz:=by rw[List.length_append,hA.1,hl,Nat.add_mul]
 have h63:((nn+mm:Nat):Int)≤9223372036854775807:=by simp only[maxLen] at hm;omega
 have grown : ∀ (olds : List Value) (old : Nat), olds.length = nn * sz → olds = xs → old < nn + mm →
     (own (some w.heap.size) (grownCap w (nn + mm) old e) e sz (nn + mm) (xs ++ news)).A
       (w.drew.alloc (.cells (olds.toArray ++ news.toArray ++ Builtin.zeroCells z'.cells (grownCap w (nn + mm) old e - (nn + mm))) e)) ∧
     Keeps ob.toList w (w.drew.alloc (.cells (olds.toArray ++ news.toArray ++ Builtin.zeroCells z'.cells (grownCap w (nn + mm) old e - (nn + mm))) e)) := by
   rintro olds old _ rfl ho
   have hge := grownCap_ge w (nn + mm) old e
   have hcm : grownCap w (nn + mm) old e ≤ maxLen := grownCap_le_maxLen w (nn + mm) old e hm
   refine ⟨⟨hlen, hge, hcm, (Builtin.zeroCells z'.cells (grownCap w (nn + mm) old e - (nn + mm))).toList, ?_, ?_⟩, (Keeps.drew _ w _ (Nat.le_succ _)).trans (Keeps.alloc _ w.drew _)⟩
   · refine ⟨(0, 0), ?_, .inl rfl⟩
     have := cH w.drew (.cells (olds.toArray ++ news.toArray ++ Builtin.zeroCells z'.cells (grownCap w (nn + mm) old e - (nn + mm))) e)
     have hs : w.drew.heap.size = w.heap.size := rfl
     rw [hs] at this
     rw [this]
     congr 2
     apply Array.toList_inj.1
     simp
   · have hzc : (Builtin.zeroCells z'.cells (grownCap w (nn + mm) old e - (nn + mm))).size = (grownCap w (nn + mm) old e - (nn + mm)) * sz := by rw [size_zeroCells, hzs]
     rw [List.length_append, hlen, Array.length_toList, hzc, ← Nat.add_mul]
     congr 1; omega
 have nonil : ∀ a c, p2 = some a → (∀ j u, news[j]? = some u → w.cell? (a.add j) = some u) → ∃ ob' cap' w', (Builtin.append_ #[t, t] ty #[aE ob nn cap, .slice (some a) mm c]).run P w = .ok (aE ob' (nn + mm) cap') w' ∧ (own ob' cap' e sz (nn + mm) (xs ++ news)).A w' ∧ Keeps ob.toList w w' ∧
     (∀ b ∈ ob'.toList, b ∈ ob.toList ∨ w.heap.size ≤ b) ∧ (nn + mm = 0 ∨ ob'.isSome = true) := by
   intro a c ha hn
   subst hsz
   subst hb
   cases ob with
   | none =>
     obtain ⟨hx0, hn0, hc0⟩ := hA
     subst hn0; subst hc0
     have hxs : xs = [] := List.eq_nil_of_length_eq_zero (by simpa using hx0)
     subst hxs
     by_cases hm0 : mm = 0
     · subst hm0
       have : news = [] := List.eq_nil_of_length_eq_zero (by simpa using hl)
       subst this
       refine ⟨none, 0, w, ?_, ⟨by simp, by simp⟩, Keeps.refl _ _, by simp, .inl rfl⟩
       have hf := run_firstCells_some (P := P) w ii.size 0 a 0 c [] (by simp) (by simp)
       simp [Builtin.append_, run_underlying T.ut, sizeOf, typeInfo, hi, Builtin.lenOf, hf, aE]
     · have hr := run_append_nil (P := P) w t ty e ii z' T.ut hi hz a mm c news hl hn (by omega) (by simpa using h63) (by simp at hby; omega)
       obtain ⟨g1, g2⟩ := grown [] 0 (by simp) rfl (by omega)
       simp only [Nat.zero_add] at g1 g2 ⊢
       refine ⟨some w.heap.size, _, _, hr, ?_, ?_, by simp, .inr rfl⟩
       · simpa using g1
       · simpa using g2
   | some b =>
     obtain ⟨hx0, hnc, hcm, rest, ⟨f, hg, hfz⟩, hgl⟩ := hA
     by_cases hroom : nn + mm ≤ cap
     · have hfit : nn * ii.size + news.length ≤ (xs ++ rest).toArray.size := by
         have := Nat.mul_le_mul_right ii.size hroom
         simp only [List.size_toArray, hgl, hl, ← Nat.add_mul]; exact this
       have hr := run_append_roomF (P := P) (t := t) w ty e ii T.ut hi b nn cap (xs ++ rest).toArray f (hfz.imp id (fun h => by rw [List.size_toArray, hgl]; exact h)) hg a mm c news hl hn h1 hroom hfit
       refine ⟨some b, cap, _, hr, ⟨hlen, hroom, hcm, (xs ++ rest).drop (nn * ii.size + news.length), ?_, ?_⟩, Keeps.setRow, by simp, .inr rfl⟩
       · refine ⟨f, ?_, hfz⟩
         rw [setRow_heap w b _ _ e _ hg]
         congr 3
         simp [← hx0]
       · rw [List.length_append, hlen, List.length_drop, hgl, hl, ← Nat.add_mul]
         have := Nat.mul_le_mul_right ii.size hroom
         omega
     · have holds : ∀ j u, xs[j]? = some u → w.cell? ((⟨b, 0, none⟩ : Addr).add j) = some u := fun j u hj => by
         have hlt : j < xs.length := (List.getElem?_eq_some_iff.1 hj).1
         rw [bn]
         simp only [World.cell?, hg]
         simp [List.getElem?_append, hlt, (List.getElem?_eq_some_iff.1 hj).2]
       have hr := run_append_grow (P := P) w t ty e ii z' T.ut hi hz ⟨b, 0, none⟩ nn cap xs hx0 holds a mm c news hl hn (by omega) h63 (growslice_fits (by omega) hby)
       obtain ⟨g1, g2⟩ := grown xs cap hx0 rfl (by omega)
       exact ⟨some w.heap.size, _, _, hr, g1, g2, by simp, .inr rfl⟩
 cases p2 with
 | some a=>exact nonil a c2 rfl (hnews a rfl)
 | none=>
  have:=hp rfl;subst this;have:news=[]:=List.eq_nil_of_length_eq_zero (by simpa using hl);subst this;refine⟨ob,cap,w,?_,by simpa using hA,Keeps.refl _ _,fun b hb=>.inl hb,?_⟩
  ·cases ob with
   | none=>obtain⟨hx0,hn0,hc0⟩:=hA;subst hn0;subst hc0;simp[Builtin.append_,run_underlying T.ut,sizeOf,typeInfo,hi,Builtin.lenOf,Builtin.firstCells,aE]
   | some b=>obtain⟨hx0,hnc,hcm,rest,⟨f,hg,hfz⟩,hgl⟩:=hA;simp[Builtin.append_,run_underlying T.ut,sizeOf,typeInfo,hi,Builtin.lenOf,Builtin.firstCells,aE,hnc,storeCells]
  ·cases ob with
   | none=>exact .inl (by have:=hA.2.1;omega)
   | some b=>exact .inr rfl
def Src(I H:List It)(p:Option Addr)(mm sz:Nat)(xs:List Value):Prop:=
 ∀w,Sat I H w→xs.length=mm*sz∧(p=none→mm=0)∧∀a,p=some a→∀j u,xs[j]?=some u→w.cell? (a.add j)=some u
theorem Src.sls{p:Option Addr}{nn sz:Nat}{xs:List Value}(hm:PK.sls p sz nn xs∈I):Src I H p nn sz xs:=fun w hw=>by
 have:=hw.i _ hm
 refine⟨this.1,?_,?_⟩
 ·rintro rfl;exact this.2
 ·rintro a rfl;exact this.2.2
theorem Src.own{ob:Option Nat}{cap sz nn:Nat}{e:TypeId}{xs:List Value}(hm:PK.own ob cap e sz nn xs∈H):Src I H (ob.map fun b=>⟨b,0,none⟩) nn sz xs:=fun w hw=>by
 have:=ia (hw.h _ hm)
 refine⟨this.1,?_,?_⟩
 ·intro h;rw[h] at this;exact this.2
 ·intro a h;rw[h] at this;exact this.2.2
theorem Src.cel{b mm sz:Nat}{cs:List Value}{T:TypeId}(hm:PK.cel b cs T∈H)(hl:cs.length=mm*sz):Src I H (some ⟨b,0,none⟩) mm sz cs:=fun w hw=>
 ⟨hl,fun h=>(by cases h),fun a h j u hj=>by cases h;rw[bn,dM (hw.h _ hm),Nat.zero_add];exact hj⟩
theorem Src.sub{p:Option Addr}{nn sz lo hi cap:Nat}{xs:List Value}(h:Src I H p nn sz xs)(h1:lo≤hi)(h2:hi≤nn)(h3:cap=lo→lo=hi):Src I H (if cap=lo then p else p.map (·.add (lo*sz))) (hi-lo) sz ((xs.drop (lo*sz)).take ((hi-lo)*sz)):=fun w hw=>by
 obtain⟨g1,g2,g3⟩:=h w hw
 have hm1:lo*sz≤hi*sz:=Nat.mul_le_mul_right _ h1
 have hm2:hi*sz≤nn*sz:=Nat.mul_le_mul_right _ h2
 refine⟨by rw[List.length_take,List.length_drop,g1,Nat.sub_mul];omega,?_,?_⟩
 ·intro hp
  by_cases hc:cap=lo
  ·have:=h3 hc;omega
  ·rw[if_neg hc] at hp
   have:=g2 (by simpa using hp);omega
 ·intro a ha j u hj
  have hlt:j<(hi-lo)*sz:=by have:=(List.getElem?_eq_some_iff.1 hj).1;rw[List.length_take] at this;omega
  by_cases hc:cap=lo
  ·have:=h3 hc;subst this;simp at hlt
  ·rw[if_neg hc] at ha
   cases p with
   | none=>simp at ha
   | some q=>
    simp only[Option.map_some,Option.some.injEq] at ha
    subst ha
    rw[add_add]
    refine g3 q rfl (lo*sz+j) u ?_
    rw[List.getElem?_take,if_pos hlt,List.getElem?_drop] at hj
    exact hj
theorem RL.append{e:TypeId}{sz bytes:Nat}{ob:Option Nat}{cap nn mm c2:Nat}{xs news:List Value}{p2:Option Addr}{B:List It}(T:ElemT P t e sz bytes)(ho:b7 L i=some ⟨some d,.call ⟨.builtin .append,#[x,y],#[t,t]⟩,ty,pos,af,g⟩)(hw:aG L E ⟨some d,.call ⟨.builtin .append,#[x,y],#[t,t]⟩,ty,pos,af,g⟩=true)(hN:Nat.blt d N.n=true)(hi:ef.contains i=true)(hb:bk.contains i=true)(hx:E.ev x=some (aE ob nn cap))(hy:E.ev y=some (.slice p2 mm c2))(hs:Src I H p2 mm sz news)(h1:∀u∈news,u.oneCell'=true)(hm:nn+mm≤maxLen)(hby:(nn+mm)*bytes≤140737488355328)(hp:Pick H [PK.own ob cap e sz nn xs] B)(h:∀ob' cap',(nn+mm=0∨ob'.isSome=true)→RL P L ef bk tq Q l N ((d,aE ob' (nn+mm) cap')::E) w0 S I (PK.own ob' cap' e sz (nn+mm) (xs++news)::B)):RL P L ef bk tq Q (.cons i l) N E w0 S I H:=by
 refine eZ ho hw hi rfl hN (fun a w ha hC=>?_);obtain⟨s1,s2,s3⟩:=hs w hC.s;have hA:(PK.own ob cap e sz nn xs).A w:=hC.s.h _ (hp.memA _ (by simp));obtain⟨ob',cap',w',r1,r2,r3,r4,r5⟩:=run_append (ty:=ty) T hA s1 s2 s3 h1 hm hby (c2:=c2);unfold dD;rw[eV (ha.ev hx) (ha.ev hy) r1];have hs':Sat [] [PK.own ob' cap' e sz (nn+mm) (xs++news)] w':=⟨by simp,by simpa using r2,by cases ob'<;>simp[PK.own],by simp⟩;have hk:Keeps (bss [PK.own ob cap e sz nn xs]) w w':=by simpa[PK.own] using r3
 have:=hC.call (C:=[]) hp .nil hk hs' (by simpa[PK.own] using r4) (by simp);exact⟨I,_,this,fun _ h=>h,fun hbk=>(by rw[hb] at hbk;cases hbk),h ob' cap' r5⟩
theorem run_appendNew{e:TypeId}{sz bytes:Nat}{p:Option Addr}{nn cap mm c2:Nat}{xs news:List Value}{p2:Option Addr}{w:World}(T:ElemT P t e sz bytes)(q1:xs.length=nn*sz)(q2:p=none→nn=0)(q3:∀a,p=some a→∀j u,xs[j]?=some u→w.cell? (a.add j)=some u)(s1:news.length=mm*sz)(s2:p2=none→mm=0)(s3:∀a,p2=some a→∀j u,news[j]?=some u→w.cell? (a.add j)=some u)(hroom:cap<nn+mm)(hm:nn+mm≤maxLen)(hby:(nn+mm)*bytes≤140737488355328):∃w',(Builtin.append_ #[t,t] ty #[.slice p nn cap,.slice p2 mm c2]).run P w=.ok (.slice (some ⟨w.heap.size,0,none⟩) (nn+mm) (grownCap w (nn+mm) cap e)) w'∧Grow w w'∧(PK.own (some w.heap.size) (grownCap w (nn+mm) cap e) e sz (nn+mm) (xs++news)).A w':=by
 obtain⟨ii,z',hi',hz,hsz,hbb,hzs⟩:=T.inf;have h63:((nn+mm:Nat):Int)≤9223372036854775807:=by simp only[maxLen] at hm;omega
 have hlen:(xs++news).length=(nn+mm)*sz:=by rw[List.length_append,q1,s1,Nat.add_mul]
 have hge:=grownCap_ge w (nn+mm) cap e;have hcm:grownCap w (nn+mm) cap e≤maxLen:=grownCap_le_maxLen w (nn+mm) cap e hm
 have key : (Builtin.append_ #[t, t] ty #[.slice p nn cap, .slice p2 mm c2]).run P w = .ok (.slice (some ⟨w.heap.size, 0, none⟩) (nn + mm) (grownCap w (nn + mm) cap e))
     (w.drew.alloc (.cells (xs.toArray ++ news.toArray ++ Builtin.zeroCells z'.cells (grownCap w (nn + mm) cap e - (nn + mm))) e)) := by
   have hfit := growslice_fits hroom hby
   subst hsz; subst hbb
   have hf1 : ∀ w' : World, (∀ a, w'.cell? a = w.cell? a) → (Builtin.firstCells ii.size nn (.slice p nn cap)).run P w' = .ok xs.toArray w' := by
     intro w' hw'
     cases p with
     | none =>
       have := q2 rfl; subst this
       have : xs = [] := List.eq_nil_of_length_eq_zero (by simpa using q1)
       subst this; simp [Builtin.firstCells]
     | some q => exact run_firstCells_some (P := P) w' ii.size nn q nn cap xs q1 (fun j u hj => by rw [hw']; exact q3 q rfl j u hj)
   have hf2 : ∀ w' : World, (∀ a, w'.cell? a = w.cell? a) → (Builtin.firstCells ii.size mm (.slice p2 mm c2)).run P w' = .ok news.toArray w' := by
     intro w' hw'
     cases p2 with
     | none =>
       have := s2 rfl; subst this
       have : news = [] := List.eq_nil_of_length_eq_zero (by simpa using s1)
       subst this; simp [Builtin.firstCells]
     | some q => exact run_firstCells_some (P := P) w' ii.size mm q mm c2 news s1 (fun j u hj => by rw [hw']; exact s3 q rfl j u hj)
   have hd1 := hf1 w.drew (fun _ => rfl)
   have hd2 := hf2 w.drew (fun _ => rfl)
   have hn : ¬ (nn + mm ≤ cap) := by omega
   have h63' : ¬ (9223372036854775807 < ((nn : Int) + (mm : Int))) := by omega
   have h48' : ¬ (281474976710656 < Builtin.nextslicecap (nn + mm) cap * ii.bytes) := by omega
   simp [Builtin.append_, run_underlying T.ut, sizeOf, typeInfo, zeroValue, hi', hz, Builtin.lenOf, hn, h63', h48', Question.forced, hd1, hd2, newRow, grownCap]
   congr 2
   apply Array.ext'
   simp [List.append_assoc]
 have hdr:w.drew.heap.size=w.heap.size:=rfl;refine⟨_,key,(Keeps.drew _ w _ (Nat.le_succ _)).trans (Keeps.alloc _ w.drew _),hlen,hge,hcm,(Builtin.zeroCells z'.cells (grownCap w (nn+mm) cap e-(nn+mm))).toList,?_,?_⟩
 ·refine⟨(0,0),?_,.inl rfl⟩;have:=cH w.drew (.cells (xs.toArray++news.toArray++Builtin.zeroCells z'.cells (grownCap w (nn+mm) cap e-(nn+mm))) e);rw[hdr] at this;rw[this];congr 2;apply Array.toList_inj.1;simp
 ·have hzc:(Builtin.zeroCells z'.cells (grownCap w (nn+mm) cap e-(nn+mm))).size=(grownCap w (nn+mm) cap e-(nn+mm))*sz:=by rw[size_zeroCells,hzs]
  rw[List.length_append,hlen,Array.length_toList,hzc,←Nat.add_mul];congr 1;omega
theorem RL.appendNew{e:TypeId}{sz bytes:Nat}{p:Option Addr}{nn cap mm c2:Nat}{xs news:List Value}{p2:Option Addr}(T:ElemT P t e sz bytes)(ho:b7 L i=some ⟨some d,.call ⟨.builtin .append,#[x,y],#[t,t]⟩,ty,pos,af,g⟩)(hw:aG L E ⟨some d,.call ⟨.builtin .append,#[x,y],#[t,t]⟩,ty,pos,af,g⟩=true)(hN:Nat.blt d N.n=true)(hi:ef.contains i=true)(hx:E.ev x=some (.slice p nn cap))(hy:E.ev y=some (.slice p2 mm c2))(hs1:Src I H p nn sz xs)(hs:Src I H p2 mm sz news)(hroom:cap<nn+mm)(hm:nn+mm≤maxLen)(hby:(nn+mm)*bytes≤140737488355328)(h:∀b cap',RL P L ef bk tq Q l N ((d,.slice (some ⟨b,0,none⟩) (nn+mm) cap')::E) w0 S I (PK.own (some b) cap' e sz (nn+mm) (xs++news)::H)):RL P L ef bk tq Q (.cons i l) N E w0 S I H:=by refine eZ ho hw hi rfl hN (fun a w ha hC=>?_);obtain⟨s1,s2,s3⟩:=hs w hC.s;obtain⟨q1,q2,q3⟩:=hs1 w hC.s;obtain⟨w',hr,hg,hA⟩:=run_appendNew (ty:=ty) T q1 q2 q3 s1 s2 s3 hroom hm hby (c2:=c2);unfold dD;rw[eV (ha.ev hx) (ha.ev hy) hr];exact⟨I,_,hC.more hg hA (by simp[PK.own]) (by simp[PK.own]),fun _ h=>h,fun _ _ h=>h.less,h _ _⟩
inductive Del:List It→It→List It→Prop
 | here {x:It} {H:List It}:Del (x::H) x H
 | there {x y:It} {H B:List It} (h:Del H x B):Del (y::H) x (y::B)
theorem Del.spec{H B:List It}{x:It}(h:Del H x B):x∈H∧(∀y∈B,y∈H)∧(PK.bss H).Perm (x.bs++PK.bss B):=by
 induction h with
 | here=>exact⟨by simp,fun y hy=>by simp[hy],List.Perm.refl _⟩
 | there h ih=>
  refine⟨by simp[ih.1],fun y hy=>?_,?_⟩
  ·rcases List.mem_cons.1 hy with rfl|hy
   ·simp
   ·simp[ih.2.1 y hy]
  ·simp only[bM];refine(ih.2.2.append_left _).trans ?_;rw[←List.append_assoc,←List.append_assoc];exact List.perm_append_comm.append_right _
inductive Rea:List It→List It→Prop
 | nil {H:List It}:Rea H []
 | cons {x:It} {H B H':List It} (d:Del H x B) (r:Rea B H'):Rea H (x::H')
theorem rE{H H':List It}(h:Rea H H':=by repeat (first|exact Rea.nil|(apply Rea.cons;(solve|(repeat (first|exact Del.here|apply Del.there)))))):Rea H H':=h
theorem Rea.spec{H H':List It}(h:Rea H H'):(∀y∈H',y∈H)∧(∀b∈PK.bss H',b∈PK.bss H)∧((PK.bss H).Nodup→(PK.bss H').Nodup):=by
 induction h with
 | nil=>simp
 | cons d r ih=>
  obtain⟨d1,d2,d3⟩:=d.spec;refine⟨fun y hy=>?_,fun b hb=>?_,fun hnd=>?_⟩
  ·rcases List.mem_cons.1 hy with rfl|hy
   ·exact d1
   ·exact d2 y (ih.1 y hy)
  ·refine d3.mem_iff.2 ?_;rcases List.mem_append.1 hb with hb|hb
   ·exact List.mem_append_left _ hb
   ·exact List.mem_append_right _ (ih.2.1 b hb)
  ·have:=d3.nodup_iff.1 hnd;rw[List.nodup_append] at this;rw[bM,List.nodup_append];exact⟨this.1,ih.2.2 this.2.1,fun b hb b' hb'=>this.2.2 b hb b' (ih.2.1 b' hb')⟩
theorem Cls.rea{I' H':List It}{w:World}(h:Cls w0 S I H w)(hi:∀x∈I',x∈I)(r:Rea H H'):Cls w0 S I' H' w:=by obtain⟨r1,r2,r3⟩:=r.spec;exact⟨h.k,⟨fun x hx=>h.s.i x (hi x hx),fun x hx=>h.s.h x (r1 x hx),r3 h.s.nd,fun b hb hb'=>by obtain⟨x,hx,hbx⟩:=mem_bss.1 hb;exact h.s.dj b (mem_bss.2 ⟨x,hi x hx,hbx⟩) (r2 b hb')⟩,fun b hb=>h.own b (r2 b hb)⟩
theorem wE{w0:World}{S:List Nat}{I H H':List It}(h:Rea H H':=by repeat (first|exact Rea.nil|(apply Rea.cons;(solve|(repeat (first|exact Del.here|apply Del.there)))))):∀w,Cls w0 S I H w→Cls w0 S I H' w:=fun _ hw=>hw.rea (fun _ h=>h) h
theorem CW.rea{I' H':List It}{c:Code}(hi:∀x∈I',x∈I)(r:Rea H H')(h:CW P c Q N E w0 S I' H'):CW P c Q N E w0 S I H:=fun a w ha hw=>h a w ha (hw.rea hi r)
theorem NQ.rea{I' H':List It}(hi:∀x∈I',x∈I)(r:Rea H H')(h:NQ Q N E w0 S I' H'):NQ Q N E w0 S I H:=fun a w ha hw=>h a w ha (hw.rea hi r)
theorem Lend.cel{F J:List It}{b off sz nn:Nat}{cs xs:List Value}{T:TypeId}(hm:PK.cel b cs T∈F)(hl:xs.length=nn*sz)(hx:∀j u,xs[j]?=some u→cs[off+j]?=some u)(h:Lend I F J):Lend I F (PK.sls (some ⟨b,off,none⟩) sz nn xs::J):=
 .of (fun _ hw=>cel_sls (hw.h _ hm) hl hx) (fun c hc=>.inr (mem_bss.2 ⟨_,hm,by by_cases hn:nn=0<;>simp_all [PK.sls,PK.cel]⟩)) h
theorem Lend.all{F J:List It}{b sz nn:Nat}{cs:List Value}{T:TypeId}(hm:PK.cel b cs T∈F)(hl:cs.length=nn*sz)(h:Lend I F J):Lend I F (PK.sls (some ⟨b,0,none⟩) sz nn cs::J):=
 .cel hm hl (fun j u hj=>by rw[Nat.zero_add];exact hj) h
theorem Lend.own{F J:List It}{ob:Option Nat}{cap sz nn:Nat}{e:TypeId}{xs:List Value}(hm:PK.own ob cap e sz nn xs∈F)(h:Lend I F J):Lend I F (PK.sls (ob.map fun b=>⟨b,0,none⟩) sz nn xs::J):=
 .of (fun _ hw=>ia (hw.h _ hm)) (fun c hc=>.inr (mem_bss.2 ⟨_,hm,by by_cases hn:nn=0<;>cases ob<;>simp_all [PK.sls,PK.own]⟩)) h
theorem Spc.law{f:FuncId}{args:Array Value}{u:Value}{w:World}(h:Spc P f args I [] (Is u))(hw:Sat I [] w):Calls P f args w (fun e w'=>e=.returned u∧RowKit.Below w.heap.size w w'):=
 (h w hw).mono fun _ _ ⟨_,_,_,he,⟨hv,_,_⟩,hk,_⟩=>⟨by rw[he,hv],⟨hk.os,hk.tape,hk.output,hk.size,fun b hb=>hk.block b hb (by simp)⟩⟩
theorem Sat.one{x:It}{w:World}(h:x.A w):Sat [x] [] w:=⟨by simpa using h,by simp,by simp,by simp⟩
theorem Sat.none(w:World):Sat [] [] w:=⟨by simp,by simp,by simp,by simp⟩
theorem iO{fn:Func}{tt:Tmp}{T:TypeId}{p:Addr}{vs:List Value}(hf:fn.results= #[.cell tt T])(ht:E.get tt=some (.pointer (some p)))(hag:∀w,(isAgg T).run P w=.ok true w)(hs:∀w,(sizeOf T).run P w=.ok vs.length w)(hr:Rds I H p vs):
  ∀a w,Ag N a E→Cls w0 S I H w→(results fn a.tmps).run P w=.ok (.agg vs.toArray) w:=fun a w ha hC=>by
 have:=ft (P:=P) hag hs (hr w hC.s)
 simp[results,hf,ha.t tt _ ht,asAddr,this]
end
section
variable {P:Program} {L:List Oper} {ef bk:List Nat} {tq:Tq} {Q:Exit→Act→World→Prop} {N:Fm} {E:Env} {w0:World} {S:List Nat} {I H:List It} {i:Nat} {l:Sq}
variable {d:Nat} {x y z:Operand} {ty t yt:TypeId} {pos:String} {af:Array Edge} {g:Option (Nat×Bool)} {v:Value} {k k':IntKind} {m n:Int}
theorem bj{op:BinOp}{a b:Value}(ho:b7 L i=some ⟨some d,.binOp op t x y yt,ty,pos,af,g⟩:=by exact rfl)(hw:aG L E ⟨some d,.binOp op t x y yt,ty,pos,af,g⟩=true:=by exact rfl)(hN:Nat.blt d N.n=true:=by exact rfl)
  (hx:E.ev x=some a:=by exact rfl) (hy:E.ev y=some b:=by exact rfl) (hr:∀w,(do eqGuard op t x y a b;binOp op t a b:Sem Value).run P w=.ok v w) (h:RL P L ef bk tq Q l N ((d,v)::E) w0 S I H):RL P L ef bk tq Q (.cons i l) N E w0 S I H:=
 bN ho hw rfl hN (fun ac w ha=>by
  have:=hr w
  show Sem.run P (do pure (Next.value (←(do eqGuard op t x y (ac.eval x) (ac.eval y);binOp op t (ac.eval x) (ac.eval y):Sem Value)))) w=_
  rw[ha.ev hx,ha.ev hy,Sem.run_bind,this]
  rfl) h
theorem equal_ptr{e:TypeId}(hu:∀w,(underlying t).run P w=.ok (.pointer e) w)(p:Option Addr)(w:World):(Op.equal t (.pointer p) (.pointer none)).run P w=.ok p.isNone w:=by unfold Op.equal;rw[show Op.maxDepth=9999+1 from rfl,Op.equalIn.eq_2];cases p<;>simp[hu]
theorem fb{e:TypeId}(hu:∀w,(underlying t).run P w=.ok (.pointer e) w)(p:Option Addr)(w:World):(do eqGuard .eql t x y (.pointer p) (.pointer none);binOp .eql t (.pointer p) (.pointer none):Sem Value).run P w=.ok (.bool p.isNone) w:=by simp[eqGuard,binOp,equal_ptr hu p]
theorem dG{e:TypeId}(hu:∀w,(underlying t).run P w=.ok (.pointer e) w)(p:Option Addr)(w:World):(do eqGuard .neq t x y (.pointer p) (.pointer none);binOp .neq t (.pointer p) (.pointer none):Sem Value).run P w=.ok (.bool (!p.isNone)) w:=by simp[eqGuard,binOp,equal_ptr hu p]
theorem equal_map{a b:TypeId}(hu:∀w,(underlying t).run P w=.ok (.map a b) w)(p:Option Nat)(w:World):(Op.equal t (.map p) (.map none)).run P w=.ok p.isNone w:=by unfold Op.equal;rw[show Op.maxDepth=9999+1 from rfl,Op.equalIn.eq_2];cases p<;>simp[hu]
theorem eql_map{a b:TypeId}(hu:∀w,(underlying t).run P w=.ok (.map a b) w)(p:Option Nat)(w:World):(do eqGuard .eql t x y (.map p) (.map none);binOp .eql t (.map p) (.map none):Sem Value).run P w=.ok (.bool p.isNone) w:=by simp[eqGuard,binOp,equal_map hu p]
theorem neq_map{a b:TypeId}(hu:∀w,(underlying t).run P w=.ok (.map a b) w)(p:Option Nat)(w:World):(do eqGuard .neq t x y (.map p) (.map none);binOp .neq t (.map p) (.map none):Sem Value).run P w=.ok (.bool (!p.isNone)) w:=by simp[eqGuard,binOp,equal_map hu p]
theorem equal_slice{a:TypeId}(hu:∀w,(underlying t).run P w=.ok (.slice a) w)(p:Option Addr)(len cap:Nat)(w:World):(Op.equal t (.slice p len cap) (.slice none 0 0)).run P w=.ok p.isNone w:=by unfold Op.equal;rw[show Op.maxDepth=9999+1 from rfl,Op.equalIn.eq_2];cases p<;>simp[hu]
theorem eql_slice{a:TypeId}(hu:∀w,(underlying t).run P w=.ok (.slice a) w)(p:Option Addr)(len cap:Nat)(w:World):(do eqGuard .eql t x y (.slice p len cap) (.slice none 0 0);binOp .eql t (.slice p len cap) (.slice none 0 0):Sem Value).run P w=.ok (.bool p.isNone) w:=by simp[eqGuard,binOp,equal_slice hu p len cap]
theorem equal_bool(hu:∀w,(underlying t).run P w=.ok (.bool) w)(p q:Bool)(w:World):(Op.equal t (.bool p) (.bool q)).run P w=.ok (p==q) w:=by unfold Op.equal;rw[show Op.maxDepth=9999+1 from rfl,Op.equalIn.eq_2];cases p<;>simp[hu]
theorem eql_bool(hu:∀w,(underlying t).run P w=.ok (.bool) w)(p q:Bool)(w:World):(do eqGuard .eql t x y (.bool p) (.bool q);binOp .eql t (.bool p) (.bool q):Sem Value).run P w=.ok (.bool (p==q)) w:=by simp[eqGuard,binOp,equal_bool hu p q]
theorem neq_bool(hu:∀w,(underlying t).run P w=.ok (.bool) w)(p q:Bool)(w:World):(do eqGuard .neq t x y (.bool p) (.bool q);binOp .neq t (.bool p) (.bool q):Sem Value).run P w=.ok (.bool (!(p==q))) w:=by simp[eqGuard,binOp,equal_bool hu p q]
open Classical in
noncomputable def same(a b:Value):Bool:=decide (a=b)
theorem same_iff{a b:Value}:same a b=true↔a=b:=by simp[same]
structure KeyT(P:Program)(kt:TypeId)(good:Value→Prop):Prop where
 desc:∃D,(∀w,(underlying kt).run P w=.ok D w)∧∀a b,good a→good b→Instr.sameNow D a b=none∨Instr.sameNow D a b=some (same a b)
 eq:∀a b,good a→good b→∀w,(Op.equal kt a b).run P w=.ok (same a b) w
 chk:∀a,good a→∀e w,(Instr.checkKey e 10000 kt a).run P w=.ok () w
 bits:∀a,good a→Instr.sameBits 10000 a a=true
noncomputable def eh(k:Value):List MapEntry→Nat→Option (Nat×Value)
 | [],_=>none
 | e::es,i=>open Classical in if k=e.key then some (i,e.val) else eh k es (i+1)
theorem run_findAsking{kt:TypeId}{good:Value→Prop}(K:KeyT P kt good){k:Value}(hk:good k):∀(es:List MapEntry) (i:Nat) (w:World),(∀e∈es,good e.key)→(Instr.findAsking kt k es i).run P w=.ok (eh k es i) w
 | [],i,w,_=>by simp[Instr.findAsking,eh]
 | e::es,i,w,hg=>by
  have h1:=K.eq k e.key hk (hg e (by simp)) w
  have h2:=run_findAsking K hk es (i+1) w (fun e he=>hg e (by simp[he]))
  by_cases hke:k=e.key
  ·subst hke;simp[Instr.findAsking,eh,h1,same]
  ·simp[Instr.findAsking,eh,h1,same,hke,h2]
theorem findNow_eq{D:TypeDesc}{good:Value→Prop}(hD:∀a b,good a→good b→Instr.sameNow D a b=none∨Instr.sameNow D a b=some (same a b)){k:Value}(hk:good k):
  ∀(es:List MapEntry) (i:Nat),(∀e∈es,good e.key)→Instr.findNow D k es i=none∨Instr.findNow D k es i=some (eh k es i)
 | [],i,_=>.inr rfl
 | e::es,i,hg=>by
  rcases hD k e.key hk (hg e (by simp)) with h|h
  ·left;simp[Instr.findNow,h]
  ·by_cases hke:k=e.key
   ·right;subst hke;simp[Instr.findNow,h,eh,same]
   ·rcases findNow_eq hD hk es (i+1) (fun e he=>hg e (by simp[he])) with h2|h2
    ·left;simp[Instr.findNow,h,same,hke,h2]
    ·right;simp[Instr.findNow,h,same,hke,h2,eh]
theorem fV{kt:TypeId}{good:Value→Prop}(K:KeyT P kt good){k:Value}(hk:good k)(es:List MapEntry)(w:World)(hg:∀e∈es,good e.key):(Instr.findKey kt k es).run P w=.ok (eh k es 0) w:=by
 obtain⟨D,hu,hD⟩:=K.desc;rcases findNow_eq hD hk es 0 hg with h|h
 ·simp[Instr.findKey,hu,h,run_findAsking K hk es 0 w hg]
 ·simp[Instr.findKey,hu,h]
def iK(es:List MapEntry):List (Value×Value):=es.map fun e=>(e.key,e.val)
def aN(r:Nat)(good:Value→Prop)(c:List (Value×Value)):It where
 bs:=[r]
 A w:=∃es clock,w.heap[r]?=some (.map es clock)∧iK es.toList=c∧(c.map (·.1)).Nodup∧(∀p∈c,good p.1)∧(es.toList.map (·.born)).Nodup∧∀e∈es.toList,e.born<clock
 fr w w' h hA:=by
  obtain⟨es,clock,h1,rest⟩:=hA
  exact⟨es,clock,by rw[h r (by simp)];exact h1,rest⟩
 lt w hA b hb:=by
  obtain⟨es,clock,h1,rest⟩:=hA
  have:b=r:=by simpa using hb
  subst this
  exact(Array.getElem?_eq_some_iff.1 h1).1
theorem RL.makeMap{good:Value→Prop}(ho:b7 L i=some ⟨some d,.makeMap t none,ty,pos,af,g⟩:=by exact rfl)(hw:aG L E ⟨some d,.makeMap t none,ty,pos,af,g⟩=true:=by exact rfl)(hN:Nat.blt d N.n=true:=by exact rfl)(hi:ef.contains i=true:=by exact rfl)
  (h:∀b,RL P L ef bk tq Q l N ((d,.map (some b))::E) w0 S I (aN b good []::H)):RL P L ef bk tq Q (.cons i l) N E w0 S I H:=
 RL.make (x:=fun b=>aN b good []) (u:=fun b=>.map (some b)) ho hw hi rfl hN (fun a w _ _=>⟨w.alloc (.map #[] 0),by
  simp[execOp,Instr.makeMap],Keeps.alloc _ _ _,⟨#[],0,cH w _,rfl,by simp,by simp,by simp,by simp⟩,rfl⟩) h
open Classical in
noncomputable def aO(k:Value):List (Value×Value)→Option Value
 | []=>none
 | (a,v)::r=>if k=a then some v else aO k r
theorem iP{k:Value}:∀(es:List MapEntry) (i:Nat),(eh k es i).map (·.2)=aO k (iK es)
 | [],_=>rfl
 | e::es,i=>by
  by_cases h:k=e.key
  ·simp[eh,iK,aO,h]
  ·have:=iP (k:=k) es (i+1)
   simp only[iK] at this
   simp[eh,iK,aO,h,this]
theorem fY{good:Value→Prop}{es:List MapEntry}{c:List (Value×Value)}(h:iK es=c)(hg:∀p∈c,good p.1):∀e∈es,good e.key:=fun e he=>
 hg (e.key,e.val) (by rw[←h];exact List.mem_map.2 ⟨e,he,rfl⟩)
def MapAt(I H:List It)(r:Nat)(good:Value→Prop)(c:List (Value×Value)):Prop:=∀w,Sat I H w→(aN r good c).A w
theorem MapAt.own{r:Nat}{good:Value→Prop}{c:List (Value×Value)}(hm:aN r good c∈H):MapAt I H r good c:=fun _ hw=>hw.h _ hm
theorem eS{r:Nat}{good:Value→Prop}{c:List (Value×Value)}(hm:aN r good c∈I):MapAt I H r good c:=fun _ hw=>hw.i _ hm
theorem RL.lookup{kt et:TypeId}{good:Value→Prop}{r:Nat}{c:List (Value×Value)}{key zv:Value}(K:KeyT P kt good)(hu:∀w,(underlying t).run P w=.ok (.map kt et) w:=by exact KU.h)(hz:∀w,(zeroValue et).run P w=.ok zv w:=by exact KZ.h)
  (ho:b7 L i=some ⟨some d,.lookup t x y false,ty,pos,af,g⟩) (hw:aG L E ⟨some d,.lookup t x y false,ty,pos,af,g⟩=true:=by exact rfl) (hN:Nat.blt d N.n=true:=by exact rfl) (hx:E.ev x=some (.map (some r)):=by exact rfl) (hy:E.ev y=some key:=by exact rfl) (hk:good key) (hm:MapAt I H r good c)
  (h:RL P L ef bk tq Q l N ((d,(aO key c).getD zv)::E) w0 S I H) (ht:tq.l.contains i=false:=by rfl):RL P L ef bk tq Q (.cons i l) N E w0 S I H:=
 RL.val ho hw rfl hN (fun a w ha hC=>by
  obtain⟨es,clock,h1,h2,h3,h4,h5,h6⟩:=hm w hC.s
  have hf:=fV K hk es.toList w (fY h2 h4)
  have hl:=iP (k:=key) es.toList 0
  rw[h2] at hl
  have hgo:(getObj r).run P w=.ok (.map es clock) w:=by simp[getObj,Sem.run,h1]
  simp only[execOp,ha.ev hx,ha.ev hy,Instr.lookup,Sem.run_bind,hu,Result.andThen_ok,hgo,Sem.run_pure,K.chk key hk,hf]
  cases hfl:eh key es.toList 0 with
  | none=>rw[hfl] at hl;simp[hz,←hl]
  | some p=>rw[hfl] at hl;simp[←hl]) h rfl ht
theorem ga{kt et:TypeId}{good:Value→Prop}{r:Nat}{c:List (Value×Value)}{key zv:Value}(K:KeyT P kt good)(hu:∀w,(underlying t).run P w=.ok (.map kt et) w:=by exact KU.h)(hz:∀w,(zeroValue et).run P w=.ok zv w:=by exact KZ.h)
  (ho:b7 L i=some ⟨some d,.lookup t x y true,ty,pos,af,g⟩) (hw:aG L E ⟨some d,.lookup t x y true,ty,pos,af,g⟩=true) (hN:Nat.blt d N.n=true) (hx:E.ev x=some (.map (some r))) (hy:E.ev y=some key) (hk:good key) (hm:MapAt I H r good c)
  (h:RL P L ef bk tq Q l N ((d,.tuple #[(aO key c).getD zv,.bool (aO key c).isSome])::E) w0 S I H) (ht:tq.l.contains i=false:=by rfl):RL P L ef bk tq Q (.cons i l) N E w0 S I H:=
 RL.val ho hw rfl hN (fun a w ha hC=>by
  obtain⟨es,clock,h1,h2,h3,h4,h5,h6⟩:=hm w hC.s
  have hf:=fV K hk es.toList w (fY h2 h4)
  have hl:=iP (k:=key) es.toList 0
  rw[h2] at hl
  have hgo:(getObj r).run P w=.ok (.map es clock) w:=by simp[getObj,Sem.run,h1]
  simp only[execOp,ha.ev hx,ha.ev hy,Instr.lookup,Sem.run_bind,hu,Result.andThen_ok,hgo,Sem.run_pure,K.chk key hk,hf]
  cases hfl:eh key es.toList 0 with
  | none=>rw[hfl] at hl;simp[hz,←hl]
  | some p=>rw[hfl] at hl;simp[←hl]) h rfl ht
open Classical in
noncomputable def cD(k v:Value):List (Value×Value)→List (Value×Value)
 | []=>[(k,v)]
 | (a,u)::r=>if k=a then(k,v)::r else(a,u)::cD k v r
open Classical in
noncomputable def iQ(k:Value):List (Value×Value)→List (Value×Value)
 | []=>[]
 | (a,u)::r=>if k=a then r else(a,u)::iQ k r
theorem mem_setV{k v:Value}:∀ {c:List (Value×Value)} {p:Value×Value},p∈cD k v c→p=(k,v)∨p∈c
 | [],p,h=>by simp[cD] at h;exact .inl h
 | (a,u)::r,p,h=>by
  by_cases hk:k=a
  ·subst hk;simp[cD] at h;rcases h with h|h<;>simp[h]
  ·simp[cD,hk] at h
   rcases h with h|h
   ·simp[h]
   ·rcases mem_setV h with h|h<;>simp[h]
open Classical in
theorem keys_setV{k v:Value}:∀(c:List (Value×Value)),(cD k v c).map (·.1)=if k∈c.map (·.1) then c.map (·.1) else c.map (·.1)++[k]
 | []=>by simp[cD]
 | (a,u)::r=>by
  by_cases hk:k=a
  ·subst hk;simp[cD]
  ·have ih:=keys_setV (k:=k) (v:=v) r
   simp only[cD,hk,if_false,List.map_cons,ih,List.mem_cons,false_or]
   split<;>simp
theorem gE{k v:Value}{c:List (Value×Value)}(h:(c.map (·.1)).Nodup):((cD k v c).map (·.1)).Nodup:=by
 rw[keys_setV];split
 ·exact h
 ·rename_i hn;rw[List.nodup_append]
  exact ⟨h, by simp, fun a ha b hb => by have : b = k := by simpa using hb
                                         subst this; exact fun e => hn (e ▸ ha)⟩
theorem fc{k:Value}:∀(c:List (Value×Value)),(iQ k c).Sublist c
 | []=>List.Sublist.refl _
 | (a,u)::r=>by
  by_cases hk:k=a
  ·simp[iQ,hk]
  ·simp only[iQ,hk,if_false];exact(fc r).cons_cons _
theorem ei{r:Nat}{o o':Obj}{w:World}(h:w.heap[r]?=some o)(hc:∀c e f,o≠.cells c e f):(setObj r o').run P w=.ok () { w with heap:=w.heap.setIfInBounds r o' }:=by simp only[setObj,Sem.run,h]
theorem Keeps.setObj{w:World}{r:Nat}{o:Obj}:Keeps [r] w { w with heap:=w.heap.setIfInBounds r o }:=
 ⟨rfl,rfl,rfl,by simp,fun b _ hn=>by
  have:r≠b:=fun e=>hn (by simp[e])
  simp[Array.getElem?_setIfInBounds_ne this],Nat.le_refl _⟩
theorem eW{w:World}{r:Nat}{o o':Obj}(h:w.heap[r]?=some o'):({ w with heap:=w.heap.setIfInBounds r o }:World).heap[r]?=some o:=by have hlt:=(Array.getElem?_eq_some_iff.1 h).1;simp[hlt]
theorem iR{k:Value}:∀ {es:List MapEntry} {i j:Nat} {v:Value},eh k es i=some (j,v)→i≤j∧∃e,es[j-i]?=some e∧e.key=k∧e.val=v∧∀q<j-i,∀e',es[q]?=some e'→e'.key≠k
 | [],i,j,v,h=>by cases h
 | e::es,i,j,v,h=>by
  by_cases hk:k=e.key
  ·simp only[eh,hk,if_true,Option.some.injEq,Prod.mk.injEq] at h
   obtain⟨rfl,rfl⟩:=h
   exact⟨Nat.le_refl _,e,by simp,hk.symm,rfl,fun q hq=>by omega⟩
  ·simp only[eh,hk,if_false] at h
   obtain⟨h1,e',h2,h3,h4,h5⟩:=iR h
   refine⟨by omega,e',?_,h3,h4,?_⟩
   ·rw[show j-i=(j-(i+1))+1 by omega];simpa using h2
   ·intro q hq e2 he2
    cases q with
    | zero=>simp at he2;subst he2;exact fun h=>hk h.symm
    | succ q=>simp at he2;exact h5 q (by omega) e2 he2
theorem iS{k:Value}:∀ {es:List MapEntry} {i:Nat},eh k es i=none→∀e∈es,e.key≠k
 | [],_,_,e,he=>by cases he
 | e0::es,i,h,e,he=>by
  by_cases hk:k=e0.key
  ·simp[eh,hk] at h
  ·simp only[eh,hk,if_false] at h
   rcases List.mem_cons.1 he with rfl|he
   ·exact fun h=>hk h.symm
   ·exact iS h e he
theorem setV_at{k v:Value}:∀(es:List MapEntry) (j:Nat) (e:MapEntry),es[j]?=some e→e.key=k→(∀q<j,∀e',es[q]?=some e'→e'.key≠k)→iK (es.set j { e with key:=k,val:=v })=cD k v (iK es)
 | [],j,e,h,_,_=>by simp at h
 | e0::es,0,e,h,hk,_=>by
  simp at h;subst h;simp[iK,cD,hk]
 | e0::es,j+1,e,h,hk,hn=>by
  have h0:k≠e0.key:=fun h=>hn 0 (by omega) e0 (by simp) h.symm
  have:=setV_at (v:=v) es j e (by simpa using h) hk (fun q hq e' he'=>hn (q+1) (by omega) e' (by simpa using he'))
  simp only[iK] at this
  simp[iK,cD,h0,this]
theorem setV_new{k v:Value}{b:Nat}:∀(es:List MapEntry),(∀e∈es,e.key≠k)→iK (es++[{ key:=k,val:=v,born:=b }])=cD k v (iK es)
 | [],_=>by simp[iK,cD]
 | e0::es,hn=>by
  have h0:k≠e0.key:=fun h=>hn e0 (by simp) h.symm
  have:=setV_new (b:=b) (v:=v) es (fun e he=>hn e (by simp[he]))
  have e1:iK (e0::es++[{ key:=k,val:=v,born:=b }])=(e0.key,e0.val)::iK (es++[{ key:=k,val:=v,born:=b }]):=rfl
  have e2:iK (e0::es)=(e0.key,e0.val)::iK es:=rfl
  rw[e1,this,e2,cD,if_neg h0]
theorem delV_at{k:Value}:∀(es:List MapEntry) (j:Nat) (e:MapEntry),es[j]?=some e→e.key=k→(∀q<j,∀e',es[q]?=some e'→e'.key≠k)→iK (es.eraseIdx j)=iQ k (iK es)
 | [],j,e,h,_,_=>by simp at h
 | e0::es,0,e,h,hk,_=>by
  simp at h;subst h;simp[iK,iQ,hk]
 | e0::es,j+1,e,h,hk,hn=>by
  have h0:k≠e0.key:=fun h=>hn 0 (by omega) e0 (by simp) h.symm
  have:=delV_at es j e (by simpa using h) hk (fun q hq e' he'=>hn (q+1) (by omega) e' (by simpa using he'))
  simp only[iK] at this
  simp[iK,iQ,h0,this]
theorem delV_none{k:Value}:∀(es:List MapEntry),(∀e∈es,e.key≠k)→iQ k (iK es)=iK es
 | [],_=>rfl
 | e0::es,hn=>by
  have h0:k≠e0.key:=fun h=>hn e0 (by simp) h.symm
  have:=delV_none es (fun e he=>hn e (by simp[he]))
  simp only[iK] at this
  simp[iK,iQ,h0,this]
theorem run_mapUpdate{kt et:TypeId}{good:Value→Prop}{r:Nat}{c:List (Value×Value)}{key u:Value}{w:World}(K:KeyT P kt good)(hu:∀w,(underlying t).run P w=.ok (.map kt et) w)(hk:good key)(hA:(aN r good c).A w):∃w',(Instr.mapUpdate t (.map (some r)) key u).run P w=.ok () w'∧Keeps [r] w w'∧(aN r good (cD key u c)).A w':=by
 obtain⟨es,clock,h1,h2,h3,h4,h5,h6⟩:=hA;have hf:=fV K hk es.toList w (fY h2 h4);have hgo:(getObj r).run P w=.ok (.map es clock) w:=by simp[getObj,Sem.run,h1]
 have hg':∀p∈cD key u c,good p.1:=fun p hp=>by
  rcases mem_setV hp with rfl|hp
  ·exact hk
  ·exact h4 p hp
 cases hfl:eh key es.toList 0 with
 | none=>
  refine⟨{ w with heap:=w.heap.setIfInBounds r (.map (es.push { key:=key,val:=u,born:=clock }) (clock+1)) },?_,Keeps.setObj,⟨_,_,eW h1,?_,gE h3,hg',?_,?_⟩⟩
  ·simp[Instr.mapUpdate,hu,hgo,K.chk key hk,hf,hfl,ei h1 (by simp)]
  ·rw[Array.toList_push,setV_new es.toList (iS hfl),h2]
  ·rw[Array.toList_push,List.map_append,List.nodup_append];exact⟨h5,by simp,fun a ha b hb=>by obtain⟨e,he,rfl⟩:=List.mem_map.1 ha;have:=h6 e he;simp at hb;omega⟩
  ·intro e he;rw[Array.toList_push] at he;rcases List.mem_append.1 he with he|he
   ·have:=h6 e he;omega
   ·simp at he;subst he;simp
 | some p=>
  obtain⟨j,v0⟩:=p;obtain⟨_,e,g1,g2,g3,g4⟩:=iR hfl;simp only[Nat.sub_zero] at g1 g4
  have hst:(Instr.keyThatStays ((es[j]?.map (·.key)).getD key) key).run P w=.ok key w:=by
   have:(es[j]?.map (·.key)).getD key=key:=by
    have:es[j]?=some e:=by simpa using g1
    simp[this,g2]
   rw[this];simp[Instr.keyThatStays,K.bits key hk]
  refine⟨{ w with heap:=w.heap.setIfInBounds r (.map (es.modify j fun e=>{ e with key:=key,val:=u }) clock) },?_,Keeps.setObj,⟨_,_,eW h1,?_,gE h3,hg',?_,?_⟩⟩
  ·simp only[Instr.mapUpdate,Sem.run_bind,hu,Result.andThen_ok,hgo,K.chk key hk,hf,hfl,hst,ei h1 (by simp)]
  ·have hm:(es.modify j fun e=>{ e with key:=key,val:=u }).toList=es.toList.set j { e with key:=key,val:=u }:=by
    apply List.ext_getElem?;intro q;simp only[Array.toList_modify,List.getElem?_modify,List.getElem?_set];by_cases hq:j=q
    ·subst hq;have hlt:j<es.size:=by simpa using(List.getElem?_eq_some_iff.1 g1).1
     rw[g1];simp[hlt]
    ·simp[hq]
   rw[hm,setV_at es.toList j e g1 g2 g4,h2]
  ·have:(es.modify j fun e=>{ e with key:=key,val:=u }).toList.map (·.born)=es.toList.map (·.born):=by
    apply List.ext_getElem?;intro q;simp only[Array.toList_modify,List.getElem?_map,List.getElem?_modify]
    cases es.toList[q]? with
    | none=>simp
    | some e2=>by_cases hq:j=q<;>simp[hq]
   rw[this];exact h5
  ·intro e' he';rw[Array.toList_modify] at he';obtain⟨q,hq,rfl⟩:=List.mem_iff_getElem.1 he';have:=h6 (es.toList[q]'(by simpa using hq)) (List.getElem_mem _);rw[List.getElem_modify];split<;>exact this
theorem RL.mapUpdate{kt et:TypeId}{good:Value→Prop}{r:Nat}{c:List (Value×Value)}{key u:Value}{H':List It}(K:KeyT P kt good)(hu:∀w,(underlying t).run P w=.ok (.map kt et) w:=by exact KU.h)
  (ho:b7 L i=some ⟨none,.mapUpdate t x y z,ty,pos,af,g⟩) (hw:aG L E ⟨none,.mapUpdate t x y z,ty,pos,af,g⟩=true:=by exact rfl) (hi:ef.contains i=true:=by exact rfl) (hb:bk.contains i=true:=by exact rfl)
  (hx:E.ev x=some (.map (some r)):=by exact rfl) (hy:E.ev y=some key:=by exact rfl) (hz:E.ev z=some u:=by exact rfl) (hk:good key) (hup:Upd H (aN r good c) (aN r good (cD key u c)) H') (h:RL P L ef bk tq Q l N E w0 S I H'):RL P L ef bk tq Q (.cons i l) N E w0 S I H:=
 RL.turn0 ho hw hi hb rfl hup rfl (fun a w ha hC=>by
  obtain⟨w',h1,h2,h3⟩:=run_mapUpdate K hu hk (hC.s.h _ hup.mem) (u:=u)
  refine⟨w',?_,h2,h3⟩
  show Sem.run P (do Instr.mapUpdate t (a.eval x) (a.eval y) (a.eval z);pure Next.skip) w=_
  rw[ha.ev hx,ha.ev hy,ha.ev hz]
  simp[h1]) h
theorem run_delete{kt et:TypeId}{good:Value→Prop}{r:Nat}{c:List (Value×Value)}{key:Value}{w:World}(K:KeyT P kt good)(hu:∀w,(underlying t).run P w=.ok (.map kt et) w)(hk:good key){ats:Array TypeId}(ha:ats[0]?=some t){es:Array MapEntry}{clock:Nat}(h1:w.heap[r]?=some (.map es clock))(h2:iK es.toList=c)(h4:∀p∈c,good p.1):∃es',(Builtin.delete_ ats ty #[.map (some r),key]).run P w=.ok (.tuple #[]) { w with heap:=w.heap.setIfInBounds r (.map es' clock) }∧iK es'.toList=iQ key c∧es'.toList.Sublist es.toList∧∀e∈es.toList,e∈es'.toList∨e.key=key:=by
 have hf:=fV K hk es.toList w (fY h2 h4);have hgo:(getObj r).run P w=.ok (.map es clock) w:=by simp[getObj,Sem.run,h1]
 cases hfl:eh key es.toList 0 with
 | none=>
  refine⟨es,?_,?_,List.Sublist.refl _,fun e he=>.inl he⟩
  ·simp[Builtin.delete_,ha,hu,hgo,K.chk key hk,hf,hfl,ei h1 (by simp)]
  ·rw[←h2,delV_none _ (iS hfl)]
 | some p=>
  obtain⟨j,v0⟩:=p;obtain⟨_,e,g1,g2,g3,g4⟩:=iR hfl;simp only[Nat.sub_zero] at g1 g4;have hlt:j<es.size:=by simpa using(List.getElem?_eq_some_iff.1 g1).1
  refine⟨es.eraseIdxIfInBounds j,?_,?_,?_,?_⟩
  ·simp[Builtin.delete_,ha,hu,hgo,K.chk key hk,hf,hfl,ei h1 (by simp)]
  ·rw[Array.toList_eraseIdxIfInBounds,delV_at es.toList j e g1 g2 g4,h2]
  ·rw[Array.toList_eraseIdxIfInBounds];exact List.eraseIdx_sublist _ _
  ·intro e' he';rw[Array.toList_eraseIdxIfInBounds];obtain⟨q,hq,rfl⟩:=List.mem_iff_getElem.1 he';by_cases hqj:q=j
   ·subst hqj;right;have:es.toList[q]=e:=by have:=(List.getElem?_eq_some_iff.1 g1).2;exact this
    rw[this];exact g2
   ·left;exact List.mem_eraseIdx_iff_getElem.2 ⟨q,hq,hqj,rfl⟩
theorem exec_delete{ρ:Operand→Value}{dst:Option Tmp}{vx vy:Value}{ats:Array TypeId}(hx:ρ x=vx)(hy:ρ y=vy){r:Value}{w w':World}(h:(Builtin.delete_ ats ty #[vx,vy]).run P w=.ok r w'):(execOp ρ ⟨dst,.call ⟨.builtin .delete,#[x,y],ats⟩,ty,pos,af,g⟩).run P w=.ok (.value r) w':=by simp only[BigFrame.execOp_builtin,BigFrame.builtin_delete,List.map_toArray,List.map_cons,List.map_nil,hx,hy];simp[h]
theorem RL.turnV{o:Oper}{H':List It}{x x':It}{u:Value}(ho:b7 L i=some o)(hw:aG L E o=true)(hi:ef.contains i=true)(hb:bk.contains i=true)(hd:o.dst=none)(hu:Upd H x x' H')(hbs:x'.bs=x.bs)(hv:∀a w,Ag N a E→Cls w0 S I H w→∃w',(execOp a.eval o).run P w=.ok (.value u) w'∧Keeps x.bs w w'∧x'.A w')(h:RL P L ef bk tq Q l N E w0 S I H'):RL P L ef bk tq Q (.cons i l) N E w0 S I H:=by refine RL.eff0 ho hw hi hd (fun a w ha hC=>?_);obtain⟨w',h1,h2,h3⟩:=hv a w ha hC;unfold dD;rw[h1];exact⟨I,H',hC.upd hu h2 hbs h3,fun _ h=>h,fun h=>(by rw[hb] at h;cases h),h⟩
def df(r it:Nat)(good:Value→Prop)(c left:List (Value×Value)):It where
 bs:=[r,it]
 A w:=∃es clock since seen,w.heap[r]?=some (.map es clock)∧w.heap[it]?=some (.mapIter (some r) since seen clock)∧iK es.toList=c∧(c.map (·.1)).Nodup∧(∀p∈c,good p.1)∧(es.toList.map (·.born)).Nodup∧(∀e∈es.toList,e.born<clock)∧
  since=clock∧left=iK (es.toList.filter fun e=>!seen.contains e.born)
 fr w w' h hA:=by
  obtain⟨es,clock,since,seen,h1,h2,rest⟩:=hA
  exact⟨es,clock,since,seen,by rw[h r (by simp)];exact h1,by rw[h it (by simp)];exact h2,rest⟩
 lt w hA b hb:=by
  obtain⟨es,clock,since,seen,h1,h2,rest⟩:=hA
  simp at hb
  rcases hb with rfl|rfl
  ·exact(Array.getElem?_eq_some_iff.1 h1).1
  ·exact(Array.getElem?_eq_some_iff.1 h2).1
theorem RL.range{kt et:TypeId}{good:Value→Prop}{r:Nat}{c:List (Value×Value)}{B:List It}(hu:∀w,(underlying t).run P w=.ok (.map kt et) w:=by exact KU.h)(ho:b7 L i=some ⟨some d,.range t x,ty,pos,af,g⟩)(hw:aG L E ⟨some d,.range t x,ty,pos,af,g⟩=true)(hN:Nat.blt d N.n=true)(hi:ef.contains i=true)(hb:bk.contains i=true)(hx:E.ev x=some (.map (some r)))(hp:Pick H [aN r good c] B)(h:∀it,RL P L ef bk tq Q l N ((d,.pointer (some ⟨it,0,none⟩))::E) w0 S I (df r it good c c::B)):RL P L ef bk tq Q (.cons i l) N E w0 S I H:=by
 refine eZ ho hw hi rfl hN (fun a w ha hC=>?_);have hmA:(aN r good c).A w:=hC.s.h _ (hp.memA _ (by simp));obtain⟨es,clock,h1,h2,h3,h4,h5,h6⟩:=hmA;have hgo:(getObj r).run P w=.ok (.map es clock) w:=by simp[getObj,Sem.run,h1]
 have hrl:r<w.heap.size:=(Array.getElem?_eq_some_iff.1 h1).1;have key:(execOp a.eval ⟨some d,.range t x,ty,pos,af,g⟩).run P w=.ok (.value (.pointer (some ⟨w.heap.size,0,none⟩))) (w.alloc (.mapIter (some r) clock #[] clock)):=by simp[execOp,ha.ev hx,Instr.range,hu,hgo]
 unfold dD;rw[key]
 have hs:Sat [] [df r w.heap.size good c c] (w.alloc (.mapIter (some r) clock #[] clock)):=by
  refine⟨by simp,?_,?_,by simp⟩
  ·intro y hy;have:y=df r w.heap.size good c c:=by simpa using hy
   subst this;refine⟨es,clock,clock,#[],by rw[ir _ _ hrl];exact h1,cH w _,h2,h3,h4,h5,h6,rfl,?_⟩;rw[←h2];congr 1;symm;apply List.filter_eq_self.2;simp
  ·simp[df];omega
 refine⟨I,_,hC.call (C:=[]) hp .nil (Keeps.alloc _ w _) hs ?_ (by simp),fun _ h=>h,fun hbk=>(by rw[hb] at hbk;cases hbk),h _⟩;intro b hb';simp[df,aN] at hb' ⊢;rcases hb' with rfl|rfl
 ·exact .inl rfl
 ·exact .inr (Nat.le_refl _)
theorem iT{α β:Type}(f:α→β):∀(l:List α) (j:Nat),(l.map f).eraseIdx j=(l.eraseIdx j).map f
 | [],_=>by simp
 | _::_,0=>by simp
 | a::l,j+1=>by simp[iT f l j]
theorem nodup_of_map{α β:Type}{f:α→β}{l:List α}(h:(l.map f).Nodup):l.Nodup:=by
 induction l with
 | nil=>exact List.nodup_nil
 | cons a l ih=>simp only[List.map_cons,List.nodup_cons] at h ⊢;exact⟨fun ha=>h.1 (List.mem_map.2 ⟨a,ha,rfl⟩),ih h.2⟩
theorem run_choose(n:Nat)(hn:0<n)(w:World):∃j dr,j<n∧w.drawn≤dr∧(choose (.mapNext n)).run P w=.ok j { w with drawn:=dr }:=by
 by_cases h:n≤1
 ·exact⟨0,w.drawn,hn,Nat.le_refl _,by simp[choose,Sem.run,Question.forced,h]⟩
 ·refine⟨_,w.drawn+1,Nat.mod_lt (w.tape w.drawn (.mapNext n)) hn,Nat.le_succ _,?_⟩;simp[choose,Sem.run,Question.forced,h,Question.cut]
theorem filter_seen{es:List MapEntry}{seen:Array Nat}{e:MapEntry}{j:Nat}(hnd:(es.map (·.born)).Nodup)(he:(es.filter fun e=>!seen.contains e.born)[j]?=some e):(es.filter fun e'=>!(seen.push e.born).contains e'.born)=(es.filter fun e=>!seen.contains e.born).eraseIdx j:=by
 have h1:(es.filter fun e'=>!(seen.push e.born).contains e'.born)=(es.filter fun e=>!seen.contains e.born).filter (fun e'=>e'.born !=e.born):=by rw[List.filter_filter];apply List.filter_congr;intro x _;simp only[Array.contains_push,Bool.not_or];rw[Bool.and_comm];congr 1
 rw[h1];generalize hl:(es.filter fun e=>!seen.contains e.born)=lf at he ⊢;have hnd':(lf.map (·.born)).Nodup:=by rw[←hl];exact hnd.sublist (List.filter_sublist.map _)
 clear hl h1 hnd
 induction lf generalizing j with
 | nil=>simp at he
 | cons a lf ih=>
  simp only[List.map_cons,List.nodup_cons] at hnd'
  cases j with
  | zero=>simp only[List.getElem?_cons_zero,Option.some.injEq] at he;subst he;simp only[List.eraseIdx_zero,List.tail_cons];rw[List.filter_cons_of_neg (by simp)];apply List.filter_eq_self.2;intro x hx;have:x.born≠a.born:=fun h=>hnd'.1 (h▸List.mem_map.2 ⟨x,hx,rfl⟩);simpa using this
  | succ j=>simp only[List.getElem?_cons_succ] at he;have hne:a.born≠e.born:=fun h=>hnd'.1 (h▸List.mem_map.2 ⟨e,List.mem_of_getElem? he,rfl⟩);rw[List.filter_cons_of_pos (by simpa using hne),ih he hnd'.2];simp
theorem RL.deleteIt{kt et:TypeId}{good:Value→Prop}{r it:Nat}{c left:List (Value×Value)}{key:Value}{H':List It}{t2:TypeId}(K:KeyT P kt good)(hu:∀w,(underlying t).run P w=.ok (.map kt et) w)
  (ho:b7 L i=some ⟨none,.call ⟨.builtin .delete,#[x,y],#[t,t2]⟩,ty,pos,af,g⟩) (hw:aG L E ⟨none,.call ⟨.builtin .delete,#[x,y],#[t,t2]⟩,ty,pos,af,g⟩=true) (hi:ef.contains i=true) (hb:bk.contains i=true)
  (hx:E.ev x=some (.map (some r))) (hy:E.ev y=some key) (hk:good key) (hnl:key∉left.map (·.1)) (hne:r≠it) (hup:Upd H (df r it good c left) (df r it good (iQ key c) left) H') (h:RL P L ef bk tq Q l N E w0 S I H'):RL P L ef bk tq Q (.cons i l) N E w0 S I H:=
 RL.turnV (u:=.tuple #[]) ho hw hi hb rfl hup rfl (fun a w ha hC=>by
  obtain⟨es,clock,since,seen,h1,h1',h2,h3,h4,h5,h6,h7,h8⟩:=hC.s.h _ hup.mem
  obtain⟨es',g1,g2,g3,g4⟩:=run_delete (ty:=ty) K hu hk (ats:= #[t,t2]) rfl h1 h2 h4
  refine⟨_,exec_delete (ha.ev hx) (ha.ev hy) g1,Keeps.setObj.mono (by simp[df]),⟨es',clock,since,seen,eW h1,?_,g2,?_,?_,?_,?_,h7,?_⟩⟩
  ·show(w.heap.setIfInBounds r _)[it]?=_
   rw[Array.getElem?_setIfInBounds_ne hne];exact h1'
  ·exact h3.sublist ((fc c).map _)
  ·exact fun p hp=>h4 p ((fc c).subset hp)
  ·exact h5.sublist (g3.map _)
  ·exact fun e he=>h6 e (g3.subset he)
  ·rw[h8]
   congr 1
   have hsub:(es'.toList.filter fun e=>!seen.contains e.born).Sublist (es.toList.filter fun e=>!seen.contains e.born):=g3.filter _
   refine(hsub.eq_of_length_le ?_).symm
   refine List.Nodup.length_le_of_subset ?_ (fun e he=>?_)
   ·have:((es.toList.filter fun e=>!seen.contains e.born).map (·.born)).Nodup:=h5.sublist (List.filter_sublist.map _)
    exact nodup_of_map this
   ·obtain⟨e1,e2⟩:=List.mem_filter.1 he
    rcases g4 e e1 with h|h
    ·exact List.mem_filter.2 ⟨h,e2⟩
    ·exact absurd (by rw[h8];exact List.mem_map.2 ⟨(e.key,e.val),List.mem_map.2 ⟨e,he,rfl⟩,h⟩) hnl) h
theorem Cls.unrange{r it:Nat}{good:Value→Prop}{c left:List (Value×Value)}{B:List It}{w:World}(h:Cls w0 S I (df r it good c left::B) w):Cls w0 S I (aN r good c::B) w:=by
 have hA:=h.s.h _ (List.mem_cons_self);obtain⟨es,clock,since,seen,h1,h1',h2,h3,h4,h5,h6,h7,h8⟩:=hA;have hsub:(bss (aN r good c::B)).Sublist (bss (df r it good c left::B)):=by simp[aN,df]
 refine⟨h.k,⟨h.s.i,fun y hy=>?_,h.s.nd.sublist hsub,fun b hb hb'=>h.s.dj b hb (hsub.subset hb')⟩,fun b hb=>h.own b (hsub.subset hb)⟩;rcases List.mem_cons.1 hy with rfl|hy
 ·exact⟨es,clock,h1,h2,h3,h4,h5,h6⟩
 ·exact h.s.h y (by simp[hy])
open Classical in
theorem fd{k k' v:Value}:∀ {c:List (Value×Value)},aO k (cD k' v c)=if k=k' then some v else aO k c
 | []=>by simp[cD,aO]
 | (a,u)::c=>by
  rw[cD]
  by_cases h:k'=a
  ·subst h;rw[if_pos rfl];simp only[aO];by_cases h2:k=k'<;>simp[h2]
  ·rw[if_neg h];simp only[aO];rw[fd]
   by_cases h2:k=a
   ·subst h2;simp[Ne.symm h]
   ·simp[h2]
end
abbrev B8:=BitVec 8
abbrev dg:=BitVec 32
def U8(x:B8):Value:=.int .u8 (x.toNat:Int)
def ci(x:dg):Value:=.int .u32 (x.toNat:Int)
theorem u8_wrap(n:Int):IntKind.u8.wrap n=((BitVec.ofInt 8 n).toNat:Int):=by simp[IntKind.wrap,IntKind.bits,IntKind.signed,BitVec.toNat_ofInt];omega
theorem eK(n:Int):IntKind.u32.wrap n=((BitVec.ofInt 32 n).toNat:Int):=by simp[IntKind.wrap,IntKind.bits,IntKind.signed,BitVec.toNat_ofInt];omega
theorem toNat_of32(n:Nat):(BitVec.ofInt 32 (n:Int)).toNat=n%4294967296:=by rw[BitVec.toNat_ofInt];omega
theorem cI(a:B8):BitVec.ofInt 8 (a.toNat:Int)=a:=by simp
theorem ofInt_nat32(a:dg):BitVec.ofInt 32 (a.toNat:Int)=a:=by simp
abbrev Bin32(op:BinOp)(f:dg→dg→dg):Prop:=∀a b:dg,ib op .u32 (a.toNat:Int) (b.toNat:Int)=some (ci (f a b))
abbrev Bin8(op:BinOp)(f:B8→B8→B8):Prop:=∀a b:B8,ib op .u8 (a.toNat:Int) (b.toNat:Int)=some (U8 (f a b))
theorem cM:Bin32 .add (·+·):=fun a b=>by simp[ib,ci,eK,BitVec.ofInt_add]
theorem mul32:Bin32 .mul (·*·):=fun a b=>by simp[ib,ci,eK,BitVec.ofInt_mul]
theorem and32:Bin32 .and (· &&& ·):=fun a b=>(by simp[ib,ci,eK,IntKind.bits];rfl)
theorem or32:Bin32 .or (· ||| ·):=fun a b=>(by simp[ib,ci,eK,IntKind.bits];rfl)
theorem dN:Bin32 .xor (·^^^·):=fun a b=>(by simp[ib,ci,eK,IntKind.bits];rfl)
theorem or8:Bin8 .or (· ||| ·):=fun a b=>(by simp[ib,U8,u8_wrap,IntKind.bits];rfl)
theorem xor8:Bin8 .xor (·^^^·):=fun a b=>(by simp[ib,U8,u8_wrap,IntKind.bits];rfl)
section
variable {P:Program} {L:List Oper} {ef bk:List Nat} {tq:Tq} {Q:Exit→Act→World→Prop} {N:Fm} {E:Env} {w0:World} {S:List Nat} {I H:List It} {i:Nat} {l:Sq}
variable {d:Nat} {x y z:Operand} {ty t yt:TypeId} {pos:String} {af:Array Edge} {g:Option (Nat×Bool)} {v:Value} {k k':IntKind} {m n:Int}
theorem aC{op:BinOp}{f:dg→dg→dg}{a b:dg}(hf:Bin32 op f)(ho:b7 L i=some ⟨some d,.binOp op t x y yt,ty,pos,af,g⟩:=by exact rfl)(hw:aG L E ⟨some d,.binOp op t x y yt,ty,pos,af,g⟩=true:=by exact rfl)(hN:Nat.blt d N.n=true:=by exact rfl)
  (hx:E.ev x=some (ci a):=by exact rfl) (hy:E.ev y=some (ci b):=by exact rfl) (h:RL P L ef bk tq Q l N ((d,ci (f a b))::E) w0 S I H):RL P L ef bk tq Q (.cons i l) N E w0 S I H:=
 RL.bin ho hw hN hx hy (hf a b) h
theorem RL.bv8{op:BinOp}{f:B8→B8→B8}{a b:B8}(hf:Bin8 op f)(ho:b7 L i=some ⟨some d,.binOp op t x y yt,ty,pos,af,g⟩)(hw:aG L E ⟨some d,.binOp op t x y yt,ty,pos,af,g⟩=true)(hN:Nat.blt d N.n=true)
  (hx:E.ev x=some (U8 a)) (hy:E.ev y=some (U8 b)) (h:RL P L ef bk tq Q l N ((d,U8 (f a b))::E) w0 S I H):RL P L ef bk tq Q (.cons i l) N E w0 S I H:=
 RL.bin ho hw hN hx hy (hf a b) h
theorem inv32(a:dg):Value.int .u32 (inv .u32 (a.toNat:Int))=ci (~~~a):=by
 have h1:BitVec.ofInt 32 (if IntKind.u32.signed then -1 else IntKind.u32.max)=BitVec.allOnes 32:=by decide
 have h2:inv .u32 (a.toNat:Int)=IntKind.u32.wrap (BitVec.ofInt 32 (if IntKind.u32.signed then -1 else IntKind.u32.max)^^^BitVec.ofInt 32 (a.toNat:Int)).toNat:=rfl;rw[h2,h1,eK,ofInt_nat32,ofInt_nat32,BitVec.allOnes_xor];rfl
theorem RL.inv32{a:dg}(ho:b7 L i=some ⟨some d,.unOp .xor t x,ty,pos,af,g⟩)(hw:aG L E ⟨some d,.unOp .xor t x,ty,pos,af,g⟩=true)(hN:Nat.blt d N.n=true)
  (hx:E.ev x=some (ci a)) (h:RL P L ef bk tq Q l N ((d,ci (~~~a))::E) w0 S I H):RL P L ef bk tq Q (.cons i l) N E w0 S I H:=
 RL.inv ho hw hN hx (by rw[PK.inv32];exact h)
theorem shl_u32(a:dg)(s:Nat):Value.int .u32 (IntKind.u32.wrap ((a.toNat:Int)*2^s))=ci (a <<< s):=by
 have h:(a.toNat:Int)*2^s=((a.toNat*2^s:Nat):Int):=by simp
 rw[ci,eK,h,toNat_of32];congr 2;simp[BitVec.toNat_shiftLeft,Nat.shiftLeft_eq]
theorem shr_u32(a:dg)(s:Nat):Value.int .u32 ((a.toNat:Int).fdiv (2^s))=ci (a >>> s):=by
 have h:(a.toNat:Int).fdiv (2^s)=((a.toNat/2^s:Nat):Int):=by rw[Int.fdiv_eq_ediv_of_nonneg _ (by exact Int.le_of_lt (Int.pow_pos (by decide)))];simp
 rw[ci,h];congr 2;simp[BitVec.toNat_ushiftRight,Nat.shiftRight_eq_div_pow]
theorem gF{a:dg}(s:Nat)(ho:b7 L i=some ⟨some d,.binOp .shl t x y yt,ty,pos,af,g⟩)(hw:aG L E ⟨some d,.binOp .shl t x y yt,ty,pos,af,g⟩=true)(hN:Nat.blt d N.n=true)
  (hx:E.ev x=some (ci a)) (hy:E.ev y=some (.int k' n)) (hn:n=(s:Int)) (hs:s≤32) (h:RL P L ef bk tq Q l N ((d,ci (a <<< s))::E) w0 S I H):RL P L ef bk tq Q (.cons i l) N E w0 S I H:=
 RL.shl s ho hw hN hx hy hn hs (by rw[shl_u32];exact h)
theorem gc{a:dg}(s:Nat)(ho:b7 L i=some ⟨some d,.binOp .shr t x y yt,ty,pos,af,g⟩)(hw:aG L E ⟨some d,.binOp .shr t x y yt,ty,pos,af,g⟩=true)(hN:Nat.blt d N.n=true)
  (hx:E.ev x=some (ci a)) (hy:E.ev y=some (.int k' n)) (hn:n=(s:Int):=by decide) (hs:s≤32:=by decide) (h:RL P L ef bk tq Q l N ((d,ci (a >>> s))::E) w0 S I H):RL P L ef bk tq Q (.cons i l) N E w0 S I H:=
 RL.shr s ho hw hN hx hy hn hs (by rw[shr_u32];exact h)
theorem quo_u32(a b:dg):Value.int .u32 (IntKind.u32.wrap ((a.toNat:Int).tdiv (b.toNat:Int)))=ci (a/b):=by
 have h:(a.toNat:Int).tdiv (b.toNat:Int)=((a.toNat/b.toNat:Nat):Int):=by simp
 rw[ci,eK,h,toNat_of32];congr 2;have:=a.isLt;have h3:a.toNat/b.toNat≤a.toNat:=Nat.div_le_self _ _;rw[BitVec.toNat_udiv,Nat.mod_eq_of_lt (by omega)]
theorem rem_u32(a b:dg):Value.int .u32 ((a.toNat:Int).tmod (b.toNat:Int))=ci (a%b):=by
 have h:(a.toNat:Int).tmod (b.toNat:Int)=((a.toNat%b.toNat:Nat):Int):=by rw[Int.tmod_eq_emod_of_nonneg (by omega)];simp
 rw[ci,h];congr 2
theorem gG{a:dg}(b:dg)(ho:b7 L i=some ⟨some d,.binOp .quo t x y yt,ty,pos,af,g⟩)(hw:aG L E ⟨some d,.binOp .quo t x y yt,ty,pos,af,g⟩=true)(hN:Nat.blt d N.n=true)
  (hx:E.ev x=some (ci a)) (hy:E.ev y=some (ci b)) (hb:b.toNat≠0:=by decide) (h:RL P L ef bk tq Q l N ((d,ci (a/b))::E) w0 S I H):RL P L ef bk tq Q (.cons i l) N E w0 S I H:=
 RL.quo ho hw hN hx hy (by omega) (by rw[quo_u32];exact h)
theorem iA{a:dg}(b:dg)(ho:b7 L i=some ⟨some d,.binOp .rem t x y yt,ty,pos,af,g⟩)(hw:aG L E ⟨some d,.binOp .rem t x y yt,ty,pos,af,g⟩=true)(hN:Nat.blt d N.n=true)
  (hx:E.ev x=some (ci a)) (hy:E.ev y=some (ci b)) (hb:b.toNat≠0) (h:RL P L ef bk tq Q l N ((d,ci (a%b))::E) w0 S I H):RL P L ef bk tq Q (.cons i l) N E w0 S I H:=
 RL.rem ho hw hN hx hy (by omega) (by rw[rem_u32];exact h)
theorem dq{a:B8}(hs:∀w,(underlying t).run P w=.ok (.int .u8) w:=by exact KU.h)(hd:∀w,(underlying yt).run P w=.ok (.int .u32) w:=by exact KU.h)(ho:b7 L i=some ⟨some d,.convert t yt x,ty,pos,af,g⟩)(hw:aG L E ⟨some d,.convert t yt x,ty,pos,af,g⟩=true:=by exact rfl)(hN:Nat.blt d N.n=true:=by exact rfl)
  (hx:E.ev x=some (U8 a):=by exact rfl) (h:RL P L ef bk tq Q l N ((d,ci (a.setWidth 32))::E) w0 S I H):RL P L ef bk tq Q (.cons i l) N E w0 S I H:=
 RL.conv hs hd ho hw hN hx (by
  have:Value.int .u32 (IntKind.u32.wrap (a.toNat:Int))=ci (a.setWidth 32):=by
   rw[ci,eK];congr 2;simp
  rw[this];exact h)
theorem dZ{a:dg}(hs:∀w,(underlying t).run P w=.ok (.int .u32) w:=by exact KU.h)(hd:∀w,(underlying yt).run P w=.ok (.int .u8) w:=by exact KU.h)(ho:b7 L i=some ⟨some d,.convert t yt x,ty,pos,af,g⟩)(hw:aG L E ⟨some d,.convert t yt x,ty,pos,af,g⟩=true:=by exact rfl)(hN:Nat.blt d N.n=true:=by exact rfl)
  (hx:E.ev x=some (ci a):=by exact rfl) (h:RL P L ef bk tq Q l N ((d,U8 (a.setWidth 8))::E) w0 S I H):RL P L ef bk tq Q (.cons i l) N E w0 S I H:=
 RL.conv hs hd ho hw hN hx (by
  have:Value.int .u8 (IntKind.u8.wrap (a.toNat:Int))=U8 (a.setWidth 8):=by
   rw[U8,u8_wrap];congr 2
  rw[this];exact h)
theorem bQ(hs:∀w,(underlying t).run P w=.ok (.int k) w:=by exact KU.h)(hd:∀w,(underlying yt).run P w=.ok (.int .u8) w:=by exact KU.h)(ho:b7 L i=some ⟨some d,.convert t yt x,ty,pos,af,g⟩)(hw:aG L E ⟨some d,.convert t yt x,ty,pos,af,g⟩=true:=by exact rfl)(hN:Nat.blt d N.n=true:=by exact rfl)
  (hx:E.ev x=some (.int k m):=by exact rfl) (h:RL P L ef bk tq Q l N ((d,U8 (BitVec.ofInt 8 m))::E) w0 S I H):RL P L ef bk tq Q (.cons i l) N E w0 S I H:=
 RL.conv hs hd ho hw hN hx (by rw[u8_wrap];exact h)
theorem aP{e:TypeId}{b off len cap sz j:Nat}(hu:∀w,(underlying t).run P w=.ok (.slice e) w:=by exact KU.h)(hs:∀w,(sizeOf e).run P w=.ok sz w:=by exact KS.h)(ho:b7 L i=some ⟨some d,.indexAddr t x y,ty,pos,af,g⟩)(hw:aG L E ⟨some d,.indexAddr t x y,ty,pos,af,g⟩=true:=by exact rfl)(hN:Nat.blt d N.n=true:=by exact rfl)
  (hx:E.ev x=some (.slice (some ⟨b,off,none⟩) len cap):=by exact rfl) (hy:E.ev y=some (.int k n):=by exact rfl) (hj:n=(j:Int):=by exact rfl) (hlt:j<len:=by omega) (h:RL P L ef bk tq Q l N ((d,.pointer (some ⟨b,off+j*sz,none⟩))::E) w0 S I H):RL P L ef bk tq Q (.cons i l) N E w0 S I H:=
 aS hu hs ho hw hN hx hy hj hlt (by rw[bn];exact h)
theorem al{e:TypeId}{b off len sz j:Nat}(hu:∀w,(underlying t).run P w=.ok (.array len e) w:=by exact KU.h)(hs:∀w,(sizeOf e).run P w=.ok sz w:=by exact KS.h)(ho:b7 L i=some ⟨some d,.indexAddr t x y,ty,pos,af,g⟩)(hw:aG L E ⟨some d,.indexAddr t x y,ty,pos,af,g⟩=true:=by exact rfl)(hN:Nat.blt d N.n=true:=by exact rfl)
  (hx:E.ev x=some (.pointer (some ⟨b,off,none⟩)):=by exact rfl) (hy:E.ev y=some (.int k n):=by exact rfl) (hj:n=(j:Int):=by exact rfl) (hlt:j<len:=by decide) (h:RL P L ef bk tq Q l N ((d,.pointer (some ⟨b,off+j*sz,none⟩))::E) w0 S I H):RL P L ef bk tq Q (.cons i l) N E w0 S I H:=
 RL.idxA hu hs ho hw hN hx hy hj hlt (by rw[bn];exact h)
theorem run_bnd{a:Act}(ha:Ag N a E){o:Option Operand}{len cap:Nat}{lo:Nat}(hl:bnd E o len=some (lo:Int))(h:lo≤cap)(s:BoundsCode)(w:World):(match o.map a.eval with|some v=>Instr.sliceBound v cap s|none=>pure len:Sem Nat).run P w=.ok lo w:=by
 cases o with
 | none => simp [bnd] at hl; have : len = lo := by omega
           subst this; rfl
 | some o=>
  simp only[bnd] at hl;split at hl
  ·rename_i kk mm he;have:mm=(lo:Int):=by simpa using hl
   subst this;simp only[Option.map_some,ha.ev he];exact iz h
  ·cases hl
theorem RL.sliceA{e:TypeId}{b off len sz lo hi:Nat}{ol oh:Option Operand}(hu:∀w,(underlying t).run P w=.ok (.array len e) w:=by exact KU.h)(hs:∀w,(sizeOf e).run P w=.ok sz w:=by exact KS.h)(ho:b7 L i=some ⟨some d,.slice t x ol oh none,ty,pos,af,g⟩)(hw:aG L E ⟨some d,.slice t x ol oh none,ty,pos,af,g⟩=true)(hN:Nat.blt d N.n=true)
  (hx:E.ev x=some (.pointer (some ⟨b,off,none⟩))) (hl:bnd E ol 0=some (lo:Int)) (hh:bnd E oh len=some (hi:Int)) (h1:lo≤hi:=by decide) (h2:hi≤len:=by decide) (h3:lo<len:=by decide)
  (h:RL P L ef bk tq Q l N ((d,.slice (some ⟨b,off+lo*sz,none⟩) (hi-lo) (len-lo))::E) w0 S I H):RL P L ef bk tq Q (.cons i l) N E w0 S I H:=
 bN ho hw rfl hN (fun a w ha=>by
  have q1:=run_bnd (P:=P) ha hh h2 .sliceAlen w
  have q2:=run_bnd (P:=P) ha hl h1 .sliceB w
  have hsb:(Instr.sliceBounds false len len (ol.map a.eval) (oh.map a.eval) none).run P w=.ok (lo,hi,len) w:=by
   unfold Instr.sliceBounds
   cases oh with
   | none=>cases ol with
    | none=>simp at q1 q2 ⊢;exact⟨q2,q1⟩
    | some o=>simp at q1 q2 ⊢;subst q1;simp[q2]
   | some o'=>cases ol with
    | none=>simp at q1 q2 ⊢;subst q2;simp[q1]
    | some o=>simp at q1 q2 ⊢;simp[q1,q2]
  have hne: ¬len=lo:=by omega
  show Sem.run P (do pure (Next.value (←Instr.sliceAt t (a.eval x) (ol.map a.eval) (oh.map a.eval) none))) w=_
  rw[ha.ev hx]
  simp[Instr.sliceAt,Instr.sureAddr,hu,hs,hsb,hne,bn]) h
theorem RL.slice3{e:TypeId}{p:Option Addr}{len cap sz hi:Nat}{oh om:Operand}{k1 k2:IntKind}(hu:∀w,(underlying t).run P w=.ok (.slice e) w)(hs:∀w,(sizeOf e).run P w=.ok sz w)(ho:b7 L i=some ⟨some d,.slice t x none (some oh) (some om),ty,pos,af,g⟩)(hw:aG L E ⟨some d,.slice t x none (some oh) (some om),ty,pos,af,g⟩=true)(hN:Nat.blt d N.n=true)
  (hx:E.ev x=some (.slice p len cap)) (hh:E.ev oh=some (.int k1 (hi:Int))) (hm:E.ev om=some (.int k2 (hi:Int))) (h2:hi≤cap)
  (h:RL P L ef bk tq Q l N ((d,.slice p hi hi)::E) w0 S I H):RL P L ef bk tq Q (.cons i l) N E w0 S I H:=
 bN ho hw rfl hN (fun a w ha=>by
  have hsb:(Instr.sliceBounds true len cap none (some (Value.int k1 (hi:Int))) (some (Value.int k2 (hi:Int)))).run P w=.ok (0,hi,hi) w:=by
   have a1:∀s,(Instr.sliceBound (Value.int k2 (hi:Int)) cap s).run P w=.ok hi w:=fun s=>iz h2
   have a2:∀s,(Instr.sliceBound (Value.int k1 (hi:Int)) hi s).run P w=.ok hi w:=fun s=>iz (Nat.le_refl _)
   unfold Instr.sliceBounds
   simp[a1,a2]
  show Sem.run P (do pure (Next.value (←Instr.sliceAt t (a.eval x) none (some (a.eval oh)) (some (a.eval om))))) w=_
  rw[ha.ev hx,ha.ev hh,ha.ev hm]
  by_cases h0:hi=0
  ·subst h0
   have hsb':=hsb
   simp only[Int.ofNat_zero] at hsb'
   simp[Instr.sliceAt,Instr.slice,hu,hs,hsb']
  ·simp[Instr.sliceAt,Instr.slice,hu,hs,hsb,h0]
   cases p with
   | none=>rfl
   | some a=>simp[Addr.add]) h
theorem exec_copy{ρ:Operand→Value}{dst:Option Tmp}{vx vy:Value}{ats:Array TypeId}(hx:ρ x=vx)(hy:ρ y=vy){r:Value}{w w':World}(h:(Builtin.copy_ ats ty #[vx,vy]).run P w=.ok r w'):(execOp ρ ⟨dst,.call ⟨.builtin .copy,#[x,y],ats⟩,ty,pos,af,g⟩).run P w=.ok (.value r) w':=by simp only[BigFrame.execOp_builtin,BigFrame.builtin_copy,List.map_toArray,List.map_cons,List.map_nil,hx,hy];simp[h]
theorem RL.turnD{o:Oper}{H':List It}{x x':It}(ho:b7 L i=some o)(hw:aG L E o=true)(hi:ef.contains i=true)(hb:bk.contains i=true)(hd:o.dst=some d)(hN:Nat.blt d N.n=true)(hu:Upd H x x' H')(hbs:x'.bs=x.bs)(hv:∀a w,Ag N a E→Cls w0 S I H w→∃w',(execOp a.eval o).run P w=.ok (.value v) w'∧Keeps x.bs w w'∧x'.A w')(h:RL P L ef bk tq Q l N ((d,v)::E) w0 S I H'):RL P L ef bk tq Q (.cons i l) N E w0 S I H:=by refine eZ ho hw hi hd hN (fun a w ha hC=>?_);obtain⟨w',h1,h2,h3⟩:=hv a w ha hC;unfold dD;rw[h1];exact⟨I,H',hC.upd hu h2 hbs h3,fun _ h=>h,fun h=>(by rw[hb] at h;cases h),h⟩
theorem RL.copy{e T:TypeId}{b off dl dcap mm c2 sz:Nat}{p2:Option Addr}{cs news:List Value}{H':List It}{t2:TypeId}(hu:∀w,(underlying t).run P w=.ok (.slice e) w:=by exact KU.h)(hs:∀w,(sizeOf e).run P w=.ok sz w:=by exact KS.h)
  (ho:b7 L i=some ⟨some d,.call ⟨.builtin .copy,#[x,y],#[t,t2]⟩,ty,pos,af,g⟩) (hw:aG L E ⟨some d,.call ⟨.builtin .copy,#[x,y],#[t,t2]⟩,ty,pos,af,g⟩=true) (hN:Nat.blt d N.n=true) (hi:ef.contains i=true) (hb:bk.contains i=true)
  (hx:E.ev x=some (.slice (some ⟨b,off,none⟩) dl dcap)) (hy:E.ev y=some (.slice p2 mm c2)) (hS:Src I H p2 mm sz news) (h1:∀u∈news,u.oneCell'=true)
  (hu':Upd H (PK.cel b cs T) (PK.cel b (bP cs off (news.take (Nat.min mm dl*sz))) T) H') (hl:off+dl*sz≤cs.length) (h:RL P L ef bk tq Q l N ((d,.int .i64 (Nat.min mm dl:Nat))::E) w0 S I H'):RL P L ef bk tq Q (.cons i l) N E w0 S I H:=
 RL.turnD ho hw hi hb rfl hN hu' rfl (fun a w ha hC=>by
  have hA:w.heap[b]?=some (.cells cs.toArray T (0,0)):=hC.s.h _ hu'.mem
  obtain⟨g1,g2,g3⟩:=hS w hC.s
  have hml:Nat.min mm dl*sz≤mm*sz:=Nat.mul_le_mul_right _ (Nat.min_le_left _ _)
  have hdl:Nat.min mm dl*sz≤dl*sz:=Nat.mul_le_mul_right _ (Nat.min_le_right _ _)
  have hlen:(news.take (Nat.min mm dl*sz)).length=Nat.min mm dl*sz:=by rw[List.length_take,g1];omega
  have hst:=run_storeCells_at P b off T (news.take (Nat.min mm dl*sz)) 0 cs.toArray w hA (by simp only[hlen,List.size_toArray];omega) (fun u hu=>h1 u (List.mem_of_mem_take hu))
  refine⟨w.setRow b (bP cs off (news.take (Nat.min mm dl*sz))).toArray,?_,Keeps.setRow,setRow_heap w b _ _ T _ hA⟩
  refine exec_copy (ha.ev hx) (ha.ev hy) ?_
  rw[dH cs off _ (by rw[hlen];omega)]
  simp only[Nat.add_zero] at hst
  have hfc:(Builtin.firstCells sz (Nat.min mm dl) (.slice p2 mm c2)).run P w=.ok (news.take (Nat.min mm dl*sz)).toArray w:=by
   cases p2 with
   | none=>
    have:=g2 rfl;subst this
    simp[Builtin.firstCells]
   | some q=>exact run_firstCells_some (P:=P) w sz (Nat.min mm dl) q mm c2 _ hlen (fun j u hj=>g3 q rfl j u (by
     rw[List.getElem?_take] at hj;split at hj
     ·exact hj
     ·cases hj))
  simp[Builtin.copy_,hu,hs,Builtin.lenOf,hfc,hst]
  rfl) h
theorem Cls.tell{x:It}{w w':World}(h:Cls w0 S I H w)(hg:Grow w w')(hx:x.A w')(hb:∀b∈x.bs,w.heap.size≤b):Cls w0 S (x::I) H w':=by
 have hO:=Cls.open w0 S I H w w' h hg;have ltH:∀b∈bss H,b<w.heap.size:=fun b hb=>by obtain⟨y,hy,hbx⟩:=mem_bss.1 hb;exact y.lt w (h.s.h y hy) b hbx
 refine⟨hO.k,⟨fun y hy=>?_,hO.s.h,hO.s.nd,fun b hb' hbx=>?_⟩,hO.own⟩
 ·rcases List.mem_cons.1 hy with rfl|hy
  ·exact hx
  ·exact hO.s.i y hy
 ·rw[bM] at hb';rcases List.mem_append.1 hb' with h1|h1
  ·have:=hb b h1;have:=ltH b hbx;omega
  ·exact h.s.dj b h1 hbx
theorem Cls.untell{x:It}{w:World}(h:Cls w0 S (x::I) H w):Cls w0 S I H w:=h.les (fun _ h=>by simp[h]) (Les.refl H)
theorem Cls.freeze{x:It}{B:List It}{w:World}(h:Cls w0 S I H w)(hp:Pick H [x] B):Cls w0 S (x::I) B w:=by
 have hm:=hp.perm;have hnd:=hm.nodup_iff.1 h.s.nd;rw[List.nodup_append] at hnd;refine⟨h.k,⟨fun y hy=>?_,fun y hy=>h.s.h y (hp.memB y hy),hnd.2.1,fun b hb hbx=>?_⟩,fun b hb=>h.own b (hm.mem_iff.2 (List.mem_append_right _ hb))⟩
 ·rcases List.mem_cons.1 hy with rfl|hy
  ·exact h.s.h _ (hp.memA _ (by simp))
  ·exact h.s.i y hy
 ·rw[bM] at hb;rcases List.mem_append.1 hb with h1|h1
  ·exact hnd.2.2 b (by simpa[PK.bss] using h1) b hbx rfl
  ·exact h.s.dj b h1 (hm.mem_iff.2 (List.mem_append_right _ hbx))
theorem zeros_reps{zs:List Value}{n sz:Nat}(hsz:zs.length=sz)(hpos:0<sz):((Array.range (n*sz)).map fun j=>zs.toArray[j%zs.length]!)=(cT zs n).toArray:=by
 have hrl:∀n,(cT zs n).length=n*sz:=by
  intro n;induction n with
  | zero=>simp[cT]
  | succ n ih=>simp[cT,ih,hsz,Nat.add_mul];omega
 have hrg:∀n j,j<n*sz→(cT zs n)[j]?=zs[j%sz]?:=by
  intro n;induction n with
  | zero=>intro j hj;simp at hj
  | succ n ih=>
   intro j hj;simp only[cT,List.getElem?_append,hsz];by_cases hjs:j<sz
   ·simp[hjs,Nat.mod_eq_of_lt hjs]
   ·have hge:sz≤j:=by omega
    simp only[hjs,if_false];rw[ih (j-sz) (by rw[Nat.add_mul] at hj;omega)];rw[Nat.mod_eq_sub_mod hge]
 apply Array.ext';apply List.ext_getElem?;intro j;simp only[Array.toList_map,Array.toList_range,List.getElem?_map];by_cases hj:j<n*sz
 ·have hjm:j%zs.length<zs.length:=by rw[hsz];exact Nat.mod_lt _ hpos
  have hr:=hrg n j hj;rw[←hsz] at hr;simp[hj,hr,hjm]
 ·have hj':(cT zs n)[j]?=none:=by rw[List.getElem?_eq_none];rw[hrl];omega
  simp[hj,hj']
theorem RL.makeSlice{e:TypeId}{ii:TypeInfo}{sz len:Nat}{zs:List Value}{z':Value}(hu:∀w,(underlying t).run P w=.ok (.slice e) w:=by exact KU.h)(hs:∀w,(sizeOf e).run P w=.ok sz w:=by exact KS.h)(hti:P.info? e=some ii:=by kernel_rfl)(hz:∀w,(zeroValue e).run P w=.ok z' w:=by exact KZ.h)(hzc:z'.cells=zs.toArray)(hsz:zs.length=sz)(hpos:0<sz:=by decide)(hlen:0<len)(hb:len*ii.bytes≤1000000)(hl2:len≤1000000)(ho:b7 L i=some ⟨some d,.makeSlice t x y,ty,pos,af,g⟩)(hw:aG L E ⟨some d,.makeSlice t x y,ty,pos,af,g⟩=true)(hN:Nat.blt d N.n=true)(hi:ef.contains i=true)(hx:E.ev x=some (.int k n))(hxn:n=(len:Int))(hy:E.ev y=some (.int k' m))(hyn:m=(len:Int))(h:∀b,RL P L ef bk tq Q l N ((d,.slice (some ⟨b,0,none⟩) len len)::E) w0 S I (cel b (cT zs len) e::H)):RL P L ef bk tq Q (.cons i l) N E w0 S I H:=by
 subst hxn;subst hyn;refine RL.make (x:=fun b=>cel b (cT zs len) e) (u:=fun b=>.slice (some ⟨b,0,none⟩) len len) ho hw hi rfl hN (fun a w ha _=>⟨w.alloc (.cells (cT zs len).toArray e),?_,Keeps.alloc _ _ _,cel_new,rfl⟩) h;show Sem.run P (do pure (Next.value (←Instr.makeSlice t (a.eval x) (a.eval y)))) w=_;rw[ha.ev hx,ha.ev hy];have hw1:IntKind.i64.wrap (len:Int)=len:=IntWalk.i64_in _ (by omega);have hti':∀w,(typeInfo e).run P w=.ok ii w:=fun w=>by simp[typeInfo,hti]
 have h0: ¬len*sz=0:=Nat.mul_ne_zero (by omega) (by omega);have hzz:=zeros_reps (n:=len) hsz hpos;have e1: ¬((len:Int)<0):=by omega
 have e2: ¬((ii.bytes:Int)*(len:Int)>281474976710656):=by
  have:(ii.bytes:Int)*(len:Int)=((len*ii.bytes:Nat):Int):=by rw[Int.mul_comm];simp
  omega
 simp only[Instr.makeSlice,Sem.run_bind,hu,asInt,hti',Result.andThen_ok];simp[e1,e2,h0,hw1,askRoom,newRow,hs,hz,hzc,asIntOf];rw[←hzz];simp
theorem Rd.get{b off:Nat}{cs:List Value}{T:TypeId}(hm:PK.cel b cs T∈H)(hn:cs[off]?=some v):Rd I H ⟨b,off,none⟩ v:=.cel hm (by rw[eQ];exact hn)
theorem aD{b off:Nat}{cs:List Value}{T:TypeId}(hm:PK.cel b cs T∈I)(hn:cs[off]?=some v):Rd I H ⟨b,off,none⟩ v:=.celI hm (by rw[eQ];exact hn)
theorem dP{p:Addr}{sz n j:Nat}{xs:List Value}(hm:PK.sls (some p) sz n xs∈I)(hn:xs[j]?=some v):Rd I H (p.add j) v:=(Rds.sls hm).rd hn
theorem ic{b cap sz n j:Nat}{e:TypeId}{xs:List Value}(hm:PK.own (some b) cap e sz n xs∈H)(hn:xs[j]?=some v):Rd I H ((⟨b,0,none⟩:Addr).add j) v:=(Rds.own hm).rd hn
theorem Rds.all{b:Nat}{cs:List Value}{T:TypeId}(hm:PK.cel b cs T∈H):Rds I H ⟨b,0,none⟩ cs:=.cel hm (fun j u h=>by rw[Nat.zero_add];exact h)
theorem Rds.allI{b:Nat}{cs:List Value}{T:TypeId}(hm:PK.cel b cs T∈I):Rds I H ⟨b,0,none⟩ cs:=.celI hm (fun j u h=>by rw[Nat.zero_add];exact h)
theorem aj{b off:Nat}{cs vs cs':List Value}{T:TypeId}{H':List It}(he:bP cs off vs=cs':=by exact rfl)(hs:∀w,(sizeOf t).run P w=.ok vs.length w:=by exact KS.h)(ho:b7 L i=some ⟨none,.store t x y,ty,pos,af,g⟩)(hw:aG L E ⟨none,.store t x y,ty,pos,af,g⟩=true:=by exact rfl)(hi:ef.contains i=true:=by exact rfl)(hb:bk.contains i=true:=by exact rfl)(hx:E.ev x=some (.pointer (some ⟨b,off,none⟩)):=by exact rfl)(hy:E.ev y=some v:=by exact rfl)(hc:v.cells=vs.toArray:=by exact rfl)(h1:dO vs=true:=by exact rfl)(hu:Upd H (PK.cel b cs T) (PK.cel b cs' T) H':=by exact uE)(hl:off+vs.length≤cs.length:=by decide)(h:RL P L ef bk tq Q l N E w0 S I H'):RL P L ef bk tq Q (.cons i l) N E w0 S I H:=by subst he;exact RL.store hs ho hw hi hb hx hy hc h1 (by simpa using hl) hu h
theorem iB{e:TypeId}{p:Addr}{len cap sz lo hi:Nat}{ol oh:Option Operand}(hu:∀w,(underlying t).run P w=.ok (.slice e) w:=by exact KU.h)(hs:∀w,(sizeOf e).run P w=.ok sz w:=by exact KS.h)(ho:b7 L i=some ⟨some d,.slice t x ol oh none,ty,pos,af,g⟩)(hw:aG L E ⟨some d,.slice t x ol oh none,ty,pos,af,g⟩=true)(hN:Nat.blt d N.n=true)
  (hx:E.ev x=some (.slice (some p) len cap)) (hl:bnd E ol 0=some (lo:Int)) (hh:bnd E oh len=some (hi:Int)) (h1:lo≤hi:=by omega) (h2:hi≤cap:=by omega) (h3:lo<cap:=by omega)
  (h:RL P L ef bk tq Q l N ((d,.slice (some (p.add (lo*sz))) (hi-lo) (cap-lo))::E) w0 S I H):RL P L ef bk tq Q (.cons i l) N E w0 S I H:=
 RL.slice hu hs ho hw hN hx hl hh h1 h2 (by rw[if_neg (by omega)];exact h)
theorem RL.idxS{e:TypeId}{p:Addr}{len cap sz j q:Nat}(hu:∀w,(underlying t).run P w=.ok (.slice e) w:=by exact KU.h)(hs:∀w,(sizeOf e).run P w=.ok sz w:=by exact KS.h)(ho:b7 L i=some ⟨some d,.indexAddr t x y,ty,pos,af,g⟩)(hw:aG L E ⟨some d,.indexAddr t x y,ty,pos,af,g⟩=true)(hN:Nat.blt d N.n=true)
  (hx:E.ev x=some (.slice (some (p.add q)) len cap)) (hy:E.ev y=some (.int k n)) (hj:n=(j:Int)) (hlt:j<len:=by omega) (h:RL P L ef bk tq Q l N ((d,.pointer (some (p.add (q+j*sz))))::E) w0 S I H):RL P L ef bk tq Q (.cons i l) N E w0 S I H:=
 aS hu hs ho hw hN hx hy hj hlt (by rw[add_add];exact h)
theorem reps_one(z:Value):∀n,cT [z] n=List.replicate n z
 | 0=>rfl
 | n+1=>by simp[cT,reps_one z n,List.replicate_succ]
theorem spl_one{cs:List Value}{j:Nat}{v:Value}(h:j<cs.length):bP cs j [v]=cs.take j++[v]++cs.drop (j+1):=dH _ _ _ (by simp;omega)
theorem spl_snoc{z v:Value}{k:Nat}:∀xs:List Value,bP (xs++List.replicate (k+1) z) xs.length [v]=xs++[v]++List.replicate k z
 | []=>by simp[List.replicate_succ,bP];cases k<;>rfl
 | a::xs=>by simp[bP,spl_snoc xs]
theorem spl_all:∀ {cs vs:List Value},vs.length=cs.length→bP cs 0 vs=vs
 | [],[],_=>rfl
 | c::cs,v::vs,h=>by simp only[List.length_cons,Nat.add_right_cancel_iff] at h;simp[bP,spl_all h]
 | [],v::vs,h=>by simp at h
 | c::cs,[],h=>by simp at h
theorem iU{l1 l2:List Value}(h:l1.length=l2.length){n:Nat}{v:Value}(hv:l2[n]?=some v):bP (l2.take n++l1.drop n) (0+n*1) [v]=l2.take (n+1)++l1.drop (n+1):=by
 have hn:n<l2.length:=(List.getElem?_eq_some_iff.1 hv).1;have ht:(l2.take n).length=n:=by rw[List.length_take];omega
 rw[Nat.zero_add,Nat.mul_one,dH _ _ _ (by simp;omega)];have e1:(l2.take n++l1.drop n).take n=l2.take n:=List.take_left' ht;have e2:(l2.take n++l1.drop n).drop (n+[v].length)=l1.drop (n+1):=by rw[List.drop_append,ht];simp[ht,List.drop_drop]
 rw[e1,e2,List.take_add_one,hv];simp
theorem get_mix{l1 l2:List Value}{n:Nat}(hn:n<l2.length):(l2.take n++l1.drop n)[0+n*1]?=l1[n]?:=by
 have ht:(l2.take n).length=n:=by rw[List.length_take];omega
 rw[Nat.zero_add,Nat.mul_one,List.getElem?_append_right (by omega),ht];simp
theorem Src.celAt{b off mm sz:Nat}{cs:List Value}{T:TypeId}(hm:PK.cel b cs T∈H)(hl:off+mm*sz≤cs.length):Src I H (some ⟨b,off,none⟩) mm sz ((cs.drop off).take (mm*sz)):=fun w hw=>
 ⟨by rw[List.length_take,List.length_drop];omega,fun h=>(by cases h),fun a h j u hj=>by
  cases h
  rw[bn,dM (hw.h _ hm)]
  rw[List.getElem?_take] at hj
  split at hj
  ·rw[List.getElem?_drop] at hj;exact hj
  ·cases hj⟩
theorem bC{α:Type}{f:α→Value}(h:∀a,(f a).oneCell'=true):∀l:List α,dO (l.map f)=true
 | []=>rfl
 | a::l=>by simp[dO,h a,bC h l]
theorem iV{α:Type}{f:α→Value}(h:∀a,(f a).oneCell'=true)(l:List α):∀u∈l.map f,u.oneCell'=true:=by intro u hu;obtain⟨a,_,rfl⟩:=List.mem_map.1 hu;exact h a
end
section
variable {P:Program} {L:List Oper} {ef bk:List Nat} {tq:Tq} {Q:Exit→Act→World→Prop} {N:Fm} {E:Env} {w0:World} {S:List Nat} {I H:List It} {i:Nat} {l:Sq}
variable {d:Nat} {x y z:Operand} {ty t yt:TypeId} {pos:String} {af:Array Edge} {g:Option (Nat×Bool)} {v:Value} {k k':IntKind} {m n:Int}
theorem Cls.also{x:It}{w:World}(h:Cls w0 S I H w)(hA:∀w,Sat I H w→x.A w)(hb:∀c∈x.bs,c∈bss I):Cls w0 S (x::I) H w:=by
 refine⟨h.k,⟨fun y hy=>?_,h.s.h,h.s.nd,fun b hb' hbx=>?_⟩,h.own⟩
 ·rcases List.mem_cons.1 hy with rfl|hy
  ·exact hA w h.s
  ·exact h.s.i y hy
 ·rw[bM] at hb';rcases List.mem_append.1 hb' with h1|h1
  ·exact h.s.dj b (hb b h1) hbx
  ·exact h.s.dj b h1 hbx
theorem CW.also{c:Code}(x:It)(hA:∀w,Sat I H w→x.A w)(hb:∀c∈x.bs,c∈bss I)(h:CW P c Q N E w0 S (x::I) H):CW P c Q N E w0 S I H:=fun a w ha hw=>h a w ha (hw.also hA hb)
theorem sls_sub{p:Option Addr}{sz nn lo k cap:Nat}{xs:List Value}{w:World}(h:(sls p sz nn xs).A w)(hk:lo+k≤nn)(hc:nn≤cap):(sls (if cap=lo then p else p.map (·.add (lo*sz))) sz k ((xs.drop (lo*sz)).take (k*sz))).A w:=by
 obtain⟨h1,h2⟩:=h;have hm:(lo+k)*sz≤nn*sz:=Nat.mul_le_mul_right _ hk;rw[Nat.add_mul] at hm;have hlen:((xs.drop (lo*sz)).take (k*sz)).length=k*sz:=by rw[List.length_take,List.length_drop,h1];omega
 by_cases hcl:cap=lo
 ·have hk0:k=0:=by omega
  subst hk0;rw[if_pos hcl]
  cases p with
  | none=>exact⟨hlen,rfl⟩
  | some a=>exact⟨hlen,fun h=>absurd rfl h,fun j u hj=>by simp at hj⟩
 ·rw[if_neg hcl]
  cases p with
  | none=>refine⟨hlen,?_⟩;show k=0;have:nn=0:=h2;omega
  | some a=>
   refine⟨hlen,fun hk0=>?_,fun j u hj=>?_⟩
   ·have:((a.add (lo*sz))).block=a.block:=by unfold Addr.add;split<;>rfl
    show(a.add (lo*sz)).block<_;rw[this];exact h2.1 (by omega)
   ·rw[add_add];refine h2.2 (lo*sz+j) u ?_;rw[List.getElem?_take] at hj;split at hj
    ·rw[List.getElem?_drop] at hj;exact hj
    ·cases hj
theorem bs_sub{p:Option Addr}{sz nn lo k cap:Nat}{xs ys:List Value}(hk:lo+k≤nn):∀c∈(sls (if cap=lo then p else p.map (·.add (lo*sz))) sz k ys).bs,c∈(sls p sz nn xs).bs:=by
 intro c hc;have hb:∀a:Addr,(a.add (lo*sz)).block=a.block:=fun a=>by unfold Addr.add;split<;>rfl
 by_cases hk0:k=0
 ·subst hk0;simp[sls] at hc
 ·have: ¬nn=0:=by omega
  cases p with
  | none=>simp[sls,hk0] at hc
  | some a=>
   by_cases hcl:cap=lo
   ·simpa[sls,hk0,this,hcl] using hc
   ·simpa[sls,hk0,this,hcl,hb] using hc
theorem Lend.subI{F J:List It}{a:Addr}{sz nn lo k:Nat}{xs:List Value}(hm:PK.sls (some a) sz nn xs∈I)(hk:lo+k≤nn)(h:Lend I F J):Lend I F (PK.sls (some (a.add (lo*sz))) sz k ((xs.drop (lo*sz)).take (k*sz))::J):=by
 refine .of (fun w hw=>?_) (fun c hc=>.inl (mem_bss.2 ⟨_,hm,?_⟩)) h
 ·have:=sls_sub (cap:=lo+nn+1) (hw.i _ hm) hk (by omega);rwa[if_neg (by omega)] at this
 ·have:=bs_sub (p:=some a) (sz:=sz) (nn:=nn) (cap:=lo+1) (xs:=xs) (ys:=(xs.drop (lo*sz)).take (k*sz)) hk c;rw[if_neg (by omega)] at this;exact this hc
theorem Lend.subO{F J:List It}{b cap sz nn lo k:Nat}{e:TypeId}{xs:List Value}(hm:PK.own (some b) cap e sz nn xs∈F)(hk:lo+k≤nn)(h:Lend I F J):Lend I F (PK.sls (some ((⟨b,0,none⟩:Addr).add (lo*sz))) sz k ((xs.drop (lo*sz)).take (k*sz))::J):=by
 refine .of (fun w hw=>?_) (fun c hc=>.inr (mem_bss.2 ⟨_,hm,?_⟩)) h
 ·have:=sls_sub (cap:=lo+nn+1) (ia (hw.h _ hm)) hk (by omega);rwa[if_neg (by omega)] at this
 ·have:=bs_sub (p:=some ⟨b,0,none⟩) (sz:=sz) (nn:=nn) (cap:=lo+1) (xs:=xs) (ys:=(xs.drop (lo*sz)).take (k*sz)) hk c;rw[if_neg (by omega)] at this;have h2:=this hc;by_cases hn:nn=0
  ·simp[PK.sls,hn] at h2
  ·simpa[PK.sls,PK.own,hn] using h2
theorem run_append0{e:TypeId}{sz bytes:Nat}(T:ElemT P t e sz bytes){p q:Option Addr}{nn cap c2:Nat}{w:World}(hk:nn≤cap):(Builtin.append_ #[t,t] ty #[.slice p nn cap,.slice q 0 c2]).run P w=.ok (.slice p nn cap) w:=by
 obtain⟨ii,z',hi',hz,hsz,hbb,hzs⟩:=T.inf
 have hf:(Builtin.firstCells ii.size 0 (.slice q 0 c2)).run P w=.ok #[] w:=by
  cases q with
  | none=>rfl
  | some a=>exact run_firstCells_some (P:=P) w ii.size 0 a 0 c2 [] (by simp) (by intro _ _ h';simp at h')
 cases p with
 | none=>simp[Builtin.append_,run_underlying T.ut,sizeOf,typeInfo,hi',Builtin.lenOf,hk,hf]
 | some a=>simp[Builtin.append_,run_underlying T.ut,sizeOf,typeInfo,hi',Builtin.lenOf,hk,hf,storeCells]
theorem RL.append0{e:TypeId}{sz bytes:Nat}{p q:Option Addr}{nn cap c2:Nat}(T:ElemT P t e sz bytes)
  (ho:b7 L i=some ⟨some d,.call ⟨.builtin .append,#[x,y],#[t,t]⟩,ty,pos,af,g⟩) (hw:aG L E ⟨some d,.call ⟨.builtin .append,#[x,y],#[t,t]⟩,ty,pos,af,g⟩=true) (hN:Nat.blt d N.n=true) (_hi:ef.contains i=true)
  (hx:E.ev x=some (.slice p nn cap)) (hy:E.ev y=some (.slice q 0 c2)) (hk:nn≤cap) (h:RL P L ef bk tq Q l N ((d,.slice p nn cap)::E) w0 S I H):RL P L ef bk tq Q (.cons i l) N E w0 S I H:=
 bN ho hw rfl hN (fun _ _ ha=>eV (ha.ev hx) (ha.ev hy) (run_append0 T hk)) h
theorem RL.appendTold{e:TypeId}{sz bytes:Nat}{p:Option Addr}{nn mm c2:Nat}{xs news:List Value}{p2:Option Addr}(T:ElemT P t e sz bytes)(ho:b7 L i=some ⟨some d,.call ⟨.builtin .append,#[x,y],#[t,t]⟩,ty,pos,af,g⟩)(hw:aG L E ⟨some d,.call ⟨.builtin .append,#[x,y],#[t,t]⟩,ty,pos,af,g⟩=true)(hN:Nat.blt d N.n=true)(hi:ef.contains i=true)(hx:E.ev x=some (.slice p nn nn))(hy:E.ev y=some (.slice p2 mm c2))(hs1:Src I H p nn sz xs)(hI:PK.sls p sz nn xs∈I)(hs:Src I H p2 mm sz news)(hm:nn+mm≤maxLen)(hby:(nn+mm)*bytes≤140737488355328)(h:∀p' cap',nn+mm≤cap'→(p'=none→nn+mm=0)→(mm≠0→∀c∈(PK.sls p' sz (nn+mm) (xs++news)).bs,w0.heap.size≤c)→RL P L ef bk tq Q l N ((d,.slice p' (nn+mm) cap')::E) w0 S (PK.sls p' sz (nn+mm) (xs++news)::I) H):RL P L ef bk tq Q (.cons i l) N E w0 S I H:=by
 by_cases h0:mm=0
 ·subst h0;refine eZ ho hw hi rfl hN (fun a w ha hC=>?_);obtain⟨s1,_,_⟩:=hs w hC.s;have hn0:news=[]:=List.eq_nil_of_length_eq_zero (by simpa using s1);subst hn0;unfold dD;rw[eV (ha.ev hx) (ha.ev hy) (run_append0 T (Nat.le_refl nn))];have hq:=h p nn (Nat.le_refl _) (fun hp=>(hs1 w hC.s).2.1 hp) (fun h=>absurd rfl h);rw[List.append_nil] at hq;exact⟨_,_,hC.also (fun w hw=>hw.i _ hI) (fun c hc=>mem_bss.2 ⟨_,hI,hc⟩),fun x hx=>List.mem_cons_of_mem _ hx,fun _ _ h=>h.untell,hq⟩
 ·refine eZ ho hw hi rfl hN (fun a w ha hC=>?_);obtain⟨s1,s2,s3⟩:=hs w hC.s;obtain⟨q1,q2,q3⟩:=hs1 w hC.s;obtain⟨w',hr,hg,hA⟩:=run_appendNew (ty:=ty) T q1 q2 q3 s1 s2 s3 (show nn<nn+mm by omega) hm hby (c2:=c2);unfold dD;rw[eV (ha.ev hx) (ha.ev hy) hr];have hge:=grownCap_ge w (nn+mm) nn e;have hsz:∀b∈(PK.sls (some ⟨w.heap.size,0,none⟩) sz (nn+mm) (xs++news)).bs,w.heap.size≤b:=by intro b hb;simp[PK.sls] at hb;omega
  exact⟨_,_,hC.tell (x:=PK.sls (some ⟨w.heap.size,0,none⟩) sz (nn+mm) (xs++news)) hg (ia hA) hsz,fun x hx=>List.mem_cons_of_mem _ hx,fun _ _ h=>h.untell,h _ _ hge (fun h=>by cases h) (fun _ c hc=>Nat.le_trans hC.k.size (hsz c hc))⟩
theorem bv{I':List It}{c:Code}(he:H++I=I')(h:CW P c Q N E w0 S I' []):CW P c Q N E w0 S I H:=fun a w ha hw=>h a w ha (by
 subst he
 refine⟨hw.k,⟨fun x hx=>?_,by simp,by simp,by simp⟩,by simp⟩
 rcases List.mem_append.1 hx with hx|hx
 ·exact hw.s.h x hx
 ·exact hw.s.i x hx)
theorem aB{A B I':List It}{c:Code}(hp:Pick H A B:=by exact pE)(he:A++I=I':=by exact rfl)(h:CW P c Q N E w0 S I' B):CW P c Q N E w0 S I H:=fun a w ha hw=>h a w ha (by
 subst he
 have hperm:=hp.perm
 have hnd:(bss A++bss B).Nodup:=hperm.nodup_iff.1 hw.s.nd
 rw[List.nodup_append] at hnd
 refine⟨hw.k,⟨fun x hx=>?_,fun x hx=>hw.s.h x (hp.memB x hx),hnd.2.1,fun b hb hb'=>?_⟩,fun b hb=>hw.own b (hperm.mem_iff.2 (List.mem_append_right _ hb))⟩
 ·rcases List.mem_append.1 hx with hx|hx
  ·exact hw.s.h x (hp.memA x hx)
  ·exact hw.s.i x hx
 ·rw[cY] at hb
  rcases List.mem_append.1 hb with hb|hb
  ·exact hnd.2.2 b hb b hb' rfl
  ·exact hw.s.dj b hb (hperm.mem_iff.2 (List.mem_append_right _ hb')))
def Mid(N:Fm)(E:Env)(w0:World)(S:List Nat)(I H:List It):Exit→Act→World→Prop:=fun e a w=>e=.normal∧Ag N a E∧Cls w0 S I H w
theorem CW.cut{c y:Code}(E':Env)(I' H':List It)(h1:CW P c (Mid N E' w0 S I' H') N E w0 S I H)(h2:CW P y Q N E' w0 S I' H'):CW P c (Exit.then (fun a w=>y.wpIn (FnR N.ro) 0 P Q a w) Q) N E w0 S I H:=fun a w ha hw=>
 wpIn_mono (h1 a w ha hw) (fun e a' w' ⟨he,ha',hw'⟩=>by subst he;exact h2 a' w' ha' hw')
theorem NQ.mid{E':Env}{I' H':List It}(s:Sub E E')(hc:∀w,Cls w0 S I H w→Cls w0 S I' H' w):NQ (Mid N E' w0 S I' H') N E w0 S I H:=fun _ _ ha hw=>⟨rfl,ha.sub s,hc _ hw⟩
theorem RL.also(x:It)(hA:∀w,Sat I H w→x.A w)(hb:∀c∈x.bs,c∈bss I)(h:RL P L ef bk tq Q l N E w0 S (x::I) H):RL P L ef bk tq Q l N E w0 S I H:=by have he:Cls w0 S (x::I) H=Cls w0 S I H:=funext fun w=>propext ⟨fun h=>h.untell,fun h=>h.also hA hb⟩;intro hT a ha;rw[←he];exact h (fun x hx=>List.mem_cons_of_mem _ (hT x hx)) a ha
theorem RQ.postI{fn:Func}{R:Value→List It→List It→Prop}{H' I':List It}(hr:∀a w,Ag N a E→Cls w0 S I H w→(results fn a.tmps).run P w=.ok v w)(hs:Split H H' [])(hi:∀x∈I',x∈I)(hf:∀b∈bss I',w0.heap.size≤b)(hR:R v I' H')(hd:N.ds=[]:=by rfl):RQ (FnPost P fn R w0 S) N E w0 S I H:=by
 intro a w ha hw;obtain⟨s1,s2,s3⟩:=hs.spec;obtain⟨s4,s5⟩:=s3 hw.s.nd
 have own:∀x∈H,∀b∈x.bs,b∈S∨w0.heap.size≤b:=fun x hx b hb=>by
  rcases Nat.lt_or_ge b w0.heap.size with h|h
  ·exact .inl (hw.own b (mem_bss.2 ⟨x,hx,hb⟩) h)
  ·exact .inr h
 show LeavesInM _ _ _ _ _ _ a.defers _ _;rw[ha.d,hd];refine⟨v,hr a w ha hw,v,I',H',rfl,hR,hw.k,⟨fun x hx=>hw.s.i x (hi x hx),fun x hx=>hw.s.h x (s1 x hx),s4,fun b hb hb'=>?_⟩,?_,?_⟩
 ·obtain⟨x,hx,hbx⟩:=mem_bss.1 hb;obtain⟨y,hy,hby⟩:=mem_bss.1 hb';exact hw.s.dj b (mem_bss.2 ⟨x,hi x hx,hbx⟩) (mem_bss.2 ⟨y,s1 y hy,hby⟩)
 ·intro b hb;obtain⟨x,hx,hbx⟩:=mem_bss.1 hb;exact own x (s1 x hx) b hbx
 ·intro b hb;exact .inr (hf b hb)
theorem run_mark{b:Nat}{cs:Array Value}{T:TypeId}{w:World}(h:w.heap[b]?=some (.cells cs T (0,0))):(markStringish ⟨b,0,none⟩).run P w=.ok () (w.freeze ⟨b,cs.size,none⟩ 1):=by
 have hs:(shape b).run P w=.ok (some (T,cs.size)) w:=by simp[shape,Sem.run,World.shape?,h]
 simp only[markStringish,Sem.run_bind,hs,Result.andThen_ok];rfl
theorem RL.stringish{e:TypeId}{b len cap:Nat}{cs:List Value}{B:List It}(hu:∀w,(underlying t).run P w=.ok (.slice e) w)(he:∀w,(underlying e).run P w=.ok (.int .u8) w)(ho:b7 L i=some ⟨some d,.convert t t x,ty,pos,af,g⟩)(hw:aG L E ⟨some d,.convert t t x,ty,pos,af,g⟩=true)(hN:Nat.blt d N.n=true)(hi:ef.contains i=true)(hb:bk.contains i=true)(hx:E.ev x=some (.slice (some ⟨b,0,none⟩) len cap))(hp:Pick H [PK.cel b cs e] B)(hl:cs.length=len)(h:RL P L ef bk tq Q l N ((d,.slice (some ⟨b,0,none⟩) len cap)::E) w0 S (PK.sls (some ⟨b,0,none⟩) 1 len cs::I) B):RL P L ef bk tq Q (.cons i l) N E w0 S I H:=by
 refine eZ ho hw hi rfl hN (fun a w ha hC=>?_);have hA:w.heap[b]?=some (.cells cs.toArray e (0,0)):=hC.s.h _ (hp.memA (PK.cel b cs e) (by simp));have hlt:b<w.heap.size:=(Array.getElem?_eq_some_iff.1 hA).1;have hrun:(execOp a.eval ⟨some d,.convert t t x,ty,pos,af,g⟩).run P w=.ok (.value (.slice (some ⟨b,0,none⟩) len cap)) (w.freeze ⟨b,cs.toArray.size,none⟩ 1):=by simp[execOp,ha.ev hx,convert,hu,he,run_mark hA]
 have hk:Keeps (bss [PK.cel b cs e]) w (w.freeze ⟨b,cs.toArray.size,none⟩ 1):=by refine⟨by simp[World.freeze],by simp[World.freeze],by simp[World.freeze],by simp[World.freeze],fun c _ hn=>?_,by simp[World.freeze]⟩;have hne: ¬b=c:=fun h=>hn (by simp[PK.cel,h]);simp[World.freeze,Array.getElem?_modify,hne]
 unfold dD;rw[hrun];refine⟨[PK.sls (some ⟨b,0,none⟩) 1 len cs]++I,[]++B,hC.call hp .nil hk ⟨?_,by simp,by simp[bss],by simp[bss]⟩ (by simp[bss]) ?_,fun x hx=>List.mem_append_right _ hx,fun hbk=>(by rw[hb] at hbk;cases hbk),h⟩
 ·intro y hy;obtain rfl:y=PK.sls (some ⟨b,0,none⟩) 1 len cs:=by simpa using hy
  refine⟨by rw[hl,Nat.mul_one],fun _=>by simpa[World.freeze] using hlt,fun j u hj=>?_⟩;rw[bn,Nat.zero_add];simp[World.cell?,World.freeze,Array.getElem?_modify,hA,hj]
 ·intro c hc;left;by_cases h0:len=0
  ·simp[bss,PK.sls,h0] at hc
  ·simpa[bss,PK.sls,PK.cel,h0] using hc
end
section
variable {P:Program} {L:List Oper} {ef bk:List Nat} {tq:Tq} {Q:Exit→Act→World→Prop} {N:Fm} {E:Env} {w0:World} {S:List Nat} {I H:List It} {i:Nat} {l:Sq}
variable {d:Nat} {x y z:Operand} {ty t yt:TypeId} {pos:String} {af:Array Edge} {g:Option (Nat×Bool)} {v:Value} {k k':IntKind} {m n:Int}
theorem iW{e:TypeId}(hag:∀w,(isAgg e).run P w=.ok false w)(hu:∀w,(underlying e).run P w=.ok (.int .u8) w)(dd:Nat)(l1 l2:List B8):∀(is:List Nat) (w:World),(∀i∈is,i<l1.length∧i<l2.length)→
  (Op.eqItems (dd+1) e 1 (l1.map U8).toArray (l2.map U8).toArray is).run P w=.ok (is.all fun i=>l1[i]?==l2[i]?) w
 | [],w,_=>by simp[Op.eqItems]
 | i::is,w,h=>by
  obtain⟨h1,h2⟩:=h i (by simp)
  have ih:=iW hag hu dd l1 l2 is w (fun j hj=>h j (by simp[hj]))
  have p1:(Go.part e (l1.map U8).toArray (i*1)).run P w=.ok (U8 l1[i]) w:=by simp[Go.part,hag,h1]
  have p2:(Go.part e (l2.map U8).toArray (i*1)).run P w=.ok (U8 l2[i]) w:=by simp[Go.part,hag,h2]
  have p3:(Op.equalIn (dd+1) e (U8 l1[i]) (U8 l2[i])).run P w=.ok (l1[i]==l2[i]) w:=by
   have he:((l1[i].toNat:Int)==(l2[i].toNat:Int))=(l1[i]==l2[i]):=by
    rw[Bool.eq_iff_iff]
    simp only[beq_iff_eq]
    exact⟨fun hh=>BitVec.eq_of_toNat_eq (by omega),fun hh=>by rw[hh]⟩
   rw[Op.equalIn.eq_2,←he]
   unfold U8
   generalize (l1[i].toNat:Int)=p
   generalize (l2[i].toNat:Int)=q
   simp[hu]
  simp only[Op.eqItems,Sem.run_bind,p1,p2,p3,Result.andThen_ok,List.all_cons]
  by_cases he:l1[i]=l2[i]
  ·simp[he,ih,h1,h2]
  ·simp[he,h1,h2]
theorem equal_arr8{e:TypeId}{len:Nat}{ii:TypeInfo}(hu:P.underlying t=some (.array len e))(hi:P.info? e=some ii)(hc:P.cellsOf e=1)(hag:∀w,(isAgg e).run P w=.ok false w)(hue:∀w,(underlying e).run P w=.ok (.int .u8) w)(l1 l2:List B8)(h1:l1.length=len)(h2:l2.length=len)(w:World):(Op.equal t (.agg (l1.map U8).toArray) (.agg (l2.map U8).toArray)).run P w=.ok (l1==l2) w:=by
 unfold Op.equal;rw[show Op.maxDepth=9999+1 from rfl,run_equalIn_array (P:=P) w 9999 _ _ hu hi,hc,show 9999=9998+1 from rfl,iW hag hue 9998 l1 l2 _ w (fun i hi=>by simp at hi;omega)];congr 1;rw[Bool.eq_iff_iff];simp only[List.all_eq_true,List.mem_range,beq_iff_eq];constructor
 ·intro h;apply List.ext_getElem?;intro i;by_cases hi:i<len
  ·exact h i hi
  ·rw[List.getElem?_eq_none (by omega),List.getElem?_eq_none (by omega)]
 ·rintro rfl i _;rfl
theorem eql_arr8{e:TypeId}{len:Nat}{ii:TypeInfo}(hu:P.underlying t=some (.array len e))(hi:P.info? e=some ii)(hc:P.cellsOf e=1)(hag:∀w,(isAgg e).run P w=.ok false w)(hue:∀w,(underlying e).run P w=.ok (.int .u8) w)(hm:P.eqGuardType P.depth t=false)(l1 l2:List B8)(h1:l1.length=len)(h2:l2.length=len)(w:World):(do eqGuard .eql t x y (.agg (l1.map U8).toArray) (.agg (l2.map U8).toArray);binOp .eql t (.agg (l1.map U8).toArray) (.agg (l2.map U8).toArray):Sem Value).run P w=.ok (.bool (l1==l2)) w:=by simp[eqGuard,binOp,hm,equal_arr8 hu hi hc hag hue l1 l2 h1 h2]
theorem neq_arr8{e:TypeId}{len:Nat}{ii:TypeInfo}(hu:P.underlying t=some (.array len e))(hi:P.info? e=some ii)(hc:P.cellsOf e=1)(hag:∀w,(isAgg e).run P w=.ok false w)(hue:∀w,(underlying e).run P w=.ok (.int .u8) w)(hm:P.eqGuardType P.depth t=false)(l1 l2:List B8)(h1:l1.length=len)(h2:l2.length=len)(w:World):(do eqGuard .neq t x y (.agg (l1.map U8).toArray) (.agg (l2.map U8).toArray);binOp .neq t (.agg (l1.map U8).toArray) (.agg (l2.map U8).toArray):Sem Value).run P w=.ok (.bool (!(l1==l2))) w:=by simp[eqGuard,binOp,hm,equal_arr8 hu hi hc hag hue l1 l2 h1 h2]
theorem CW.freeze{c:Code}{x:It}{B:List It}(hp:Pick H [x] B)(h:CW P c Q N E w0 S (x::I) B):CW P c Q N E w0 S I H:=fun a w ha hw=>h a w ha (hw.freeze hp)
end
end Go.PK
namespace Go.PK
open Go.ChangeShapes Go.WideShapes
section
variable {P:Program}
structure Rdr(P:Program)(t:TypeId)(α:Type) where
 cells:α→List Value
 its:α→List It
 ok:α→Prop
 val:α→Value
 len:∀a,ok a→(cells a).length=P.cellsOf t
 spec:∀ {H:Type} {enc:TypeId×Value→H} {w:World} {base:Nat} {held:Bool} {fuel:Nat} {cs:List Value} {x:DataW H×List MemPlace},
  DataW.trod enc P w base (fun _=>true) held fuel t cs=some x→∃a,cs=cells a∧ok a∧∀y∈its a,y.A w
 vspec:∀ {a:α} {v:Value} {w:World} {r:Reach} {base:Nat},Value.okWide P w r base t v→v.cells.toList=cells a→v=val a
theorem Rdr.arg{t:TypeId}{α:Type}(R:Rdr P t α){H:Type}{enc:TypeId×Value→H}{w:World}{r:Reach}{base b2:Nat}{held:Bool}{v:Value}{d:DataW H}{ps:List MemPlace}(hv:Value.okWide P w r b2 t v)(h:DataW.Trod enc P w base (fun _=>true) held t v d ps):∃a,v=R.val a∧R.ok a∧∀y∈R.its a,y.A w:=by obtain⟨fuel,hf⟩:=h;obtain⟨a,h1,h2,h3⟩:=R.spec hf;exact⟨a,R.vspec hv h1,h2,h3⟩
theorem dQ{v c:Value}(hn:∀cs,v≠.agg cs)(h:v.cells.toList=[c]):v=c:=by cases v<;>simp_all [Value.cells]
theorem dw{t:TypeId}{v:Value}{w:World}{r:Reach}{b:Nat}(h:Value.okWide P w r b t v)(h1:∀fs,P.underlying t≠some (.struct fs))(h2:∀n e,P.underlying t≠some (.array n e)):∀cs,v≠.agg cs:=by
 rintro cs rfl;unfold Value.okWide at h;split at h
 ·exact absurd (by assumption) (h1 _)
 ·exact absurd (by assumption) (h2 _ _)
 ·unfold Cell.okWide at h;split at h<;>simp_all [Cell.ok]
theorem okWide_isagg{t:TypeId}{v:Value}{w:World}{r:Reach}{b:Nat}(h:Value.okWide P w r b t v)(h1:(∃fs,P.underlying t=some (.struct fs))∨∃n e,P.underlying t=some (.array n e)):∃cs,v=.agg cs:=by
 unfold Value.okWide at h;split at h
 ·obtain⟨cs,h,_⟩:=h;exact⟨cs,h⟩
 ·obtain⟨cs,h,_⟩:=h;exact⟨cs,h⟩
 ·rename_i n1 n2;rcases h1 with⟨fs,h1⟩|⟨n,e,h1⟩
  ·exact absurd h1 (n1 fs)
  ·exact absurd h1 (n2 n e)
def gi(k:IntKind)(n:Int):Prop:=(Lit.int k n).wf=true
theorem wfk_bounds{k:IntKind}{n:Int}(h:gi k n):k.min≤n∧n≤k.max:=by simpa[gi,Lit.wf,Bool.and_eq_true,decide_eq_true_eq] using h
noncomputable def Rdr.int{t:TypeId}(k:IntKind)(hu:P.underlying t=some (.int k))(hc:P.cellsOf t=1):Rdr P t Int where
 cells n:=[.int k n]
 its _:=[]
 ok n:=gi k n
 val n:=.int k n
 len _ _:=by simp[hc]
 spec h:=by
  obtain⟨n,rfl,_,hw⟩:=DataW.trod_int hu h
  exact⟨n,rfl,hw,by simp⟩
 vspec hv h:=dQ (dw hv (by simp[hu]) (by simp[hu])) h
noncomputable def Rdr.bool{t:TypeId}(hu:P.underlying t=some .bool)(hc:P.cellsOf t=1):Rdr P t Bool where
 cells n:=[.bool n]
 its _:=[]
 ok _:=True
 val n:=.bool n
 len _ _:=by simp[hc]
 spec h:=by
  obtain⟨n,rfl,_⟩:=DataW.trod_bool hu h
  exact⟨n,rfl,trivial,by simp⟩
 vspec hv h:=dQ (dw hv (by simp[hu]) (by simp[hu])) h
noncomputable def Rdr.string{t:TypeId}(hu:P.underlying t=some .string)(hc:P.cellsOf t=1):Rdr P t ByteArray where
 cells s:=[.string s]
 its _:=[]
 ok s:=s.size≤maxLen
 val s:=.string s
 len _ _:=by simp[hc]
 spec h:=by
  obtain⟨n,rfl,_,hl⟩:=DataW.trod_string hu h
  exact⟨n,rfl,hl,by simp⟩
 vspec hv h:=dQ (dw hv (by simp[hu]) (by simp[hu])) h
noncomputable def Rdr.map{t:TypeId}{α β:Type}(R:Rdr P t α)(cells:β→List Value)(its:β→List It)(ok:β→Prop)(val:β→Value)
  (h:∀a,R.ok a→∃b,cells b=R.cells a∧ok b∧(∀y∈its b,y∈R.its a)) (hl:∀b,ok b→(cells b).length=P.cellsOf t)
  (hv:∀ {b:β} {v:Value} {w:World} {r:Reach} {base:Nat},Value.okWide P w r base t v→v.cells.toList=cells b→v=val b):Rdr P t β where
 cells:=cells
 its:=its
 ok:=ok
 val:=val
 len:=hl
 spec hx:=by
  obtain⟨a,rfl,h2,h3⟩:=R.spec hx
  obtain⟨b,h4,h5,h6⟩:=h a h2
  exact⟨b,h4.symm,h5,fun y hy=>h3 y (h6 y hy)⟩
 vspec:=hv
noncomputable def Rdr.u8{t:TypeId}(hu:P.underlying t=some (.int .u8))(hc:P.cellsOf t=1):Rdr P t B8:=
 (Rdr.int .u8 hu hc).map (fun b=>[U8 b]) (fun _=>[]) (fun _=>True) U8
  (fun n hn=>by
   have:=wfk_bounds (show gi .u8 n from hn)
   simp[IntKind.min,IntKind.max,IntKind.signed,IntKind.bits] at this
   refine⟨BitVec.ofInt 8 n,?_,trivial,by simp⟩
   simp only[Rdr.int,U8,BitVec.toNat_ofInt]
   congr 2;omega)
  (fun _ _=>by simp[hc]) (fun hv h=>dQ (dw hv (by simp[hu]) (by simp[hu])) h)
noncomputable def Rdr.u32{t:TypeId}(hu:P.underlying t=some (.int .u32))(hc:P.cellsOf t=1):Rdr P t dg:=
 (Rdr.int .u32 hu hc).map (fun b=>[ci b]) (fun _=>[]) (fun _=>True) ci
  (fun n hn=>by
   have:=wfk_bounds (show gi .u32 n from hn)
   simp[IntKind.min,IntKind.max,IntKind.signed,IntKind.bits] at this
   refine⟨BitVec.ofInt 32 n,?_,trivial,by simp⟩
   simp only[Rdr.int,ci,BitVec.toNat_ofInt]
   congr 2;omega)
  (fun _ _=>by simp[hc]) (fun hv h=>dQ (dw hv (by simp[hu]) (by simp[hu])) h)
structure Sl(α:Type) where
 p:Option Addr
 c:Nat
 l:List α
theorem ej{α β:Type}{f:α→List β}{n:Nat}{l:List α}(h:∀a∈l,(f a).length=n):(l.flatMap f).length=l.length*n:=by
 induction l with
 | nil=>simp
 | cons a l ih=>rw[List.flatMap_cons,List.length_append,h a (by simp),ih (fun a ha=>h a (by simp[ha])),List.length_cons,Nat.add_mul,Nat.one_mul,Nat.add_comm]
theorem eL{α β:Type}{f:α→List β}{n:Nat}:∀ {l:List α} (_:∀a∈l,(f a).length=n) {i j:Nat} {a:α} (_:l[i]?=some a) (_:j<n),(l.flatMap f)[i*n+j]?=(f a)[j]?
 | [],_,i,j,a,ha,_=>by simp at ha
 | b::l,h,0,j,a,ha,hj=>by
  simp only[List.getElem?_cons_zero,Option.some.injEq] at ha
  subst ha
  rw[List.flatMap_cons,Nat.zero_mul,Nat.zero_add,List.getElem?_append_left (by rw[h b (by simp)];exact hj)]
 | b::l,h,i+1,j,a,ha,hj=>by
  simp only[List.getElem?_cons_succ] at ha
  have hb:=h b (by simp)
  rw[List.flatMap_cons,Nat.add_mul,Nat.one_mul,List.getElem?_append_right (by rw[hb];omega),hb,show i*n+n+j-n=i*n+j by omega]
  exact eL (fun a ha=>h a (by simp[ha])) ha hj
theorem choose_list{α:Type}{p:Nat→α→Prop}:∀ {n:Nat} (_:∀i,i<n→∃x,p i x),∃l:List α,l.length=n∧∀i a,l[i]?=some a→p i a
 | 0,_=>⟨[],rfl,by simp⟩
 | n+1,h=>by
  obtain⟨l,h1,h2⟩:=choose_list (n:=n) (fun i hi=>h i (by omega))
  obtain⟨x,hx⟩:=h n (by omega)
  refine⟨l++[x],by simp[h1],fun i a ha=>?_⟩
  rw[List.getElem?_append] at ha
  split at ha
  ·exact h2 i a ha
  ·rename_i hi
   have hi':i-l.length<1:=by
    have:=(List.getElem?_eq_some_iff.1 ha).1;simpa using this
   have e:i=n:=by omega
   subst e
   simp[h1] at ha
   exact ha▸hx
noncomputable def Rdr.slice{t e:TypeId}{α:Type}(R:Rdr P e α)(sz:Nat)(hu:P.underlying t=some (.slice e))(hc:P.cellsOf t=1)(hs:P.cellsOf e=sz)(hpos:0<sz)(cs:List α→List Value)(hcs:∀l,cs l=l.flatMap R.cells):Rdr P t (Sl α) where
 cells s:=[.slice s.p s.l.length s.c]
 its s:=sls s.p sz s.l.length (cs s.l)::s.l.flatMap R.its
 ok s:=s.l.length≤s.c∧s.c≤maxLen∧(s.p=none→s.l=[]∧s.c=0)∧∀a∈s.l,R.ok a
 val s:=.slice s.p s.l.length s.c
 len _ _:=by simp[hc]
 spec {H enc w base held fuel cells x} h:=by
  rcases Go.Deep.open_slice hu h with⟨rfl,_⟩|⟨a,len,cap,m,n,D,Pl,rfl,_,hl,hm,hmm,_,hx⟩
  ·exact⟨⟨none,0,[]⟩,rfl,⟨Nat.le_refl _,by simp,by simp,by simp⟩,fun y hy=>by
    simp only[List.flatMap_nil,List.mem_singleton] at hy
    subst hy
    exact⟨by rw[hcs];simp,rfl⟩⟩
  ·simp only[if_true] at hmm
   subst hmm
   obtain⟨l,h1,h2⟩:=choose_list (n:=len) (p:=fun i a'=>w.cells? base (a.add (i*P.cellsOf e)) (P.cellsOf e)=some (R.cells a')∧R.ok a'∧∀y∈R.its a',y.A w) (fun i hi=>by
    obtain⟨cs',g1,g2⟩:=hx i (by omega)
    obtain⟨a',rfl,g3,g4⟩:=R.spec g2
    exact⟨a',g1,g3,g4⟩)
   have hok:∀a'∈l,R.ok a':=fun a' ha=>by
    obtain⟨i,hi⟩:=List.getElem?_of_mem ha
    exact(h2 i a' hi).2.1
   have hln:∀a'∈l,(R.cells a').length=sz:=fun a' ha=>by rw[R.len a' (hok a' ha),hs]
   refine⟨⟨some a,m,l⟩,by simp[h1],⟨by simp only[h1];omega,hm,by simp,hok⟩,fun y hy=>?_⟩
   rcases List.mem_cons.1 hy with rfl|hy
   ·refine⟨by rw[hcs];exact ej hln,fun hn=>?_,fun j u hj=>?_⟩
    ·
     have hlen:l.length≠0:=hn
     ·obtain⟨a',ha'⟩:∃a',l[0]?=some a':=⟨l[0]'(by omega),by simp⟩
      obtain⟨g1,_⟩:=h2 0 a' ha'
      obtain⟨_,g2,g3⟩:=World.cells?_some g1
      have:=g3 0 (by omega)
      have hne:(R.cells a')[0]?≠none:=by
       rw[Ne,List.getElem?_eq_none_iff];rw[hln a' (List.mem_of_getElem? ha')];omega
      rw[Nat.zero_mul,show(a.add 0).add 0=a by simp[Addr.add]] at this
      rw[←this] at hne
      unfold World.cell? at hne
      by_cases hb:a.block<w.heap.size
      ·exact hb
      ·rw[Array.getElem?_eq_none (by omega)] at hne
       exact absurd rfl hne
    ·rw[hcs] at hj
     have hjl:j<l.length*sz:=by
      have:=(List.getElem?_eq_some_iff.1 hj).1
      rwa[ej hln] at this
     have hsz:0<sz:=Nat.pos_of_ne_zero (fun h=>by simp[h] at hjl)
     have hi:j/sz<l.length:=Nat.div_lt_of_lt_mul (by rw[Nat.mul_comm];exact hjl)
     have ha':l[j/sz]?=some l[j/sz]:=by simp[hi]
     obtain⟨g1,_⟩:=h2 _ _ ha'
     obtain⟨_,g2,g3⟩:=World.cells?_some g1
     have hjm:j%sz<sz:=Nat.mod_lt _ hsz
     have:=g3 (j%sz) (by omega)
     have he:j/sz*sz+j%sz=j:=by rw[Nat.mul_comm];exact Nat.div_add_mod j sz
     have hg:=eL hln ha' hjm
     rw[he,hj] at hg
     rw[hs,add_add,he,←hg] at this
     exact this
   ·obtain⟨a',ha',hy⟩:=List.mem_flatMap.1 hy
    obtain⟨i,hi⟩:=List.getElem?_of_mem ha'
    exact(h2 i a' hi).2.2 y hy
 vspec hv h:=dQ (dw hv (by simp[hu]) (by simp[hu])) h
structure Flds(P:Program)(fs:List Field)(off tot:Nat)(α:Type) where
 cells:α→List Value
 its:α→List It
 ok:α→Prop
 len:∀a,ok a→(cells a).length=tot-off
 spec:∀ {H:Type} {enc:TypeId×Value→H} {w:World} {base:Nat} {held:Bool} {cs:List Value},cs.length=tot→
  (∀f∈fs,∃n x,DataW.trod enc P w base (fun _=>true) held n f.type ((cs.drop f.offset).take (P.cellsOf f.type))=some x)→∃a,cs.drop off=cells a∧ok a∧∀y∈its a,y.A w
noncomputable def Flds.nil{tot:Nat}:Flds P [] tot tot Unit where
 cells _:=[]
 its _:=[]
 ok _:=True
 len _ _:=by simp
 spec hl _:=⟨(),by rw[List.drop_eq_nil_iff];omega,trivial,by simp⟩
noncomputable def Flds.cons{f:Field}{fs:List Field}{off k tot:Nat}{α β:Type}(R:Rdr P f.type α)(ho:f.offset=off)(hk:P.cellsOf f.type=k)(hle:off+k≤tot)(F:Flds P fs (off+k) tot β):Flds P (f::fs) off tot (α×β) where
 cells x:=R.cells x.1++F.cells x.2
 its x:=R.its x.1++F.its x.2
 ok x:=R.ok x.1∧F.ok x.2
 len x h:=by rw[List.length_append,R.len _ h.1,F.len _ h.2,hk];omega
 spec {H enc w base held cs} hl h:=by
  obtain⟨n,x,hx⟩:=h f (by simp)
  obtain⟨a,h1,h2,h3⟩:=R.spec hx
  obtain⟨b,g1,g2,g3⟩:=F.spec hl (fun f' hf'=>h f' (by simp[hf']))
  refine⟨(a,b),?_,⟨h2,g2⟩,fun y hy=>?_⟩
  ·rw[←g1,←h1,ho,hk,←List.drop_drop,List.take_append_drop]
  ·rcases List.mem_append.1 hy with hy|hy
   ·exact h3 y hy
   ·exact g3 y hy
noncomputable def Rdr.struct{t:TypeId}{fs:Array Field}{tot:Nat}{α γ:Type}(hu:P.underlying t=some (.struct fs))(hc:P.cellsOf t=tot)(F:Flds P fs.toList 0 tot α)(cells:γ→List Value)(its:γ→List It)(ok:γ→Prop)
  (h:∀a,F.ok a→∃g,cells g=F.cells a∧ok g∧∀y∈its g,y∈F.its a) (hl:∀g,ok g→(cells g).length=tot):Rdr P t γ where
 cells:=cells
 its:=its
 ok:=ok
 val g:=.agg (cells g).toArray
 len g hg:=by rw[hl g hg,hc]
 spec {H enc w base held fuel cs x} hx:=by
  obtain⟨xs,n,_,_,h2,h3,h4⟩:=DataW.trod_struct hu hx
  obtain⟨a,g1,g2,g3⟩:=F.spec (enc:=enc) (w:=w) (base:=base) (held:=held) (cs:=cs) (by rw[h2,hc]) (fun f hf=>by
   obtain⟨i,hi⟩:=List.getElem?_of_mem hf
   rw[Array.getElem?_toList] at hi
   have hlt:i<fs.size:=(Array.getElem?_eq_some_iff.1 hi).1
   exact⟨n,xs[i]'(by omega),by rw[h4 i f hi];simp⟩)
  obtain⟨g,k1,k2,k3⟩:=h a g2
  exact⟨g,by rw[k1,←g1,List.drop_zero],k2,fun y hy=>g3 y (k3 y hy)⟩
 vspec hv h:=by
  obtain⟨cs,rfl⟩:=okWide_isagg hv (.inl ⟨_,hu⟩)
  rw[←h];simp[Value.cells]
theorem trod_array{H:Type}{enc:TypeId×Value→H}{w:World}{base fuel:Nat}{sp:Nat→Bool}{held:Bool}{t e:TypeId}{k:Nat}{cs:List Value}{x:DataW H×List MemPlace}(hu:P.underlying t=some (.array k e))(h:DataW.trod enc P w base sp held fuel t cs=some x):∃n,cs.length=P.cellsOf t∧∀i,i<k→∃y,DataW.trod enc P w base sp held n e ((cs.drop (i*P.cellsOf e)).take (P.cellsOf e))=some y:=by
 cases fuel with
 | zero=>simp[DataW.trod] at h
 | succ n=>
  unfold DataW.trod at h;rw[hu] at h;simp only at h;split at h
  ·rename_i hl;refine⟨n,hl,fun i hi=>?_⟩;rw[Option.map_eq_some_iff] at h;obtain⟨ys,hy,_⟩:=h
   have:∀ {l:List Nat} {ys:List (DataW H×List MemPlace)} {f:Nat→Option (DataW H×List MemPlace)},l.mapM f=some ys→∀i∈l,∃y,f i=some y:=by
    intro l
    induction l with
    | nil=>intro ys f _ i hi;cases hi
    | cons a l ih=>
     intro ys f h i hi;rw[List.mapM_cons] at h
     cases hfa:f a with
     | none=>simp[hfa] at h
     | some y=>
      simp only[hfa,Option.bind_eq_bind,Option.bind_some] at h
      cases hl:l.mapM f with
      | none=>simp[hl] at h
      | some zs=>
       rcases List.mem_cons.1 hi with rfl|hi
       ·exact⟨y,hfa⟩
       ·exact ih hl i hi
   exact this hy i (by simpa using hi)
  ·cases h
noncomputable def Rdr.array{t e:TypeId}{α:Type}(R:Rdr P e α)(n sz:Nat)(hu:P.underlying t=some (.array n e))(hs:P.cellsOf e=sz)(hc:P.cellsOf t=n*sz)(cs:List α→List Value)(hcs:∀l,cs l=l.flatMap R.cells):Rdr P t (List α) where
 cells l:=cs l
 its l:=l.flatMap R.its
 ok l:=l.length=n∧∀a∈l,R.ok a
 val l:=.agg (cs l).toArray
 len l h:=by rw[hcs,hc,←h.1];exact ej (fun a ha=>by rw[R.len a (h.2 a ha),hs])
 spec {H enc w base held fuel cells x} hx:=by
  obtain⟨m,h1,h2⟩:=trod_array hu hx
  obtain⟨l,g1,g2⟩:=choose_list (n:=n) (p:=fun i a=>(cells.drop (i*sz)).take sz=R.cells a∧R.ok a∧∀y∈R.its a,y.A w) (fun i hi=>by
   obtain⟨y,hy⟩:=h2 i hi
   rw[hs] at hy
   obtain⟨a,k1,k2,k3⟩:=R.spec hy
   exact⟨a,k1,k2,k3⟩)
  have hok:∀a∈l,R.ok a:=fun a ha=>by
   obtain⟨i,hi⟩:=List.getElem?_of_mem ha
   exact(g2 i a hi).2.1
  have hln:∀a∈l,(R.cells a).length=sz:=fun a ha=>by rw[R.len a (hok a ha),hs]
  refine⟨l,?_,⟨g1,hok⟩,fun y hy=>?_⟩
  ·rw[hcs]
   apply List.ext_getElem?
   intro j
   by_cases hj:j<n*sz
   ·have hsz:0<sz:=Nat.pos_of_ne_zero (fun h=>by simp[h] at hj)
    have hi:j/sz<l.length:=Nat.div_lt_of_lt_mul (by rw[g1,Nat.mul_comm];exact hj)
    have ha:l[j/sz]?=some l[j/sz]:=by simp[hi]
    have hjm:j%sz<sz:=Nat.mod_lt _ hsz
    have he:j/sz*sz+j%sz=j:=by rw[Nat.mul_comm];exact Nat.div_add_mod j sz
    have hg:=eL hln ha hjm
    rw[he] at hg
    rw[hg,←(g2 _ _ ha).1,List.getElem?_take,if_pos hjm,List.getElem?_drop,he]
   ·rw[List.getElem?_eq_none (by rw[h1,hc];omega),List.getElem?_eq_none (by rw[ej hln,g1];omega)]
  ·obtain⟨a,ha,hy⟩:=List.mem_flatMap.1 hy
   obtain⟨i,hi⟩:=List.getElem?_of_mem ha
   exact(g2 i a hi).2.2 y hy
 vspec hv h:=by
  obtain⟨cs',rfl⟩:=okWide_isagg hv (.inr ⟨_,_,hu⟩)
  rw[←h];simp[Value.cells]
theorem flat_one{α β:Type}(f:α→β)(l:List α):l.map f=l.flatMap (fun a=>[f a]):=by induction l<;>simp_all
theorem Spc.lawI{f:FuncId}{args:Array Value}{u:Value}{w:World}{I:List It}(h:Spc P f args I [] (Is u))(hw:∀y∈I,y.A w):Calls P f args w (fun e w'=>e=.returned u∧RowKit.Below w.heap.size w w'):=
 h.law ⟨hw,by simp,by simp,by simp⟩
end
theorem joined_of{P:Program}{f:FuncId}{fn:Func}{s:ChangeSpec}{c:OpenClaim}(k1:c.wf (OpenSpec.ofChange s)=true)(k2:laidOutB P=true)(k3:mapsRowed P=true)(k4:fn.params.all (P.readableRec ·)=true)(k5:namedTie P c.named s.vars=true)(k6:(c.stops==[])=true)(k7:(P.stops==[])=true)(k8:(c.knobs==[])=true)(k9:(P.stopKnobs==[])=true)(k10:(c.inPlace==P.inPlace f)=true)(k11:(c.unfollowed==P.unfollowed f)=true)(k12:(c.recurses==P.recurses f)=true)(k13:(c.named==P.varsNamed f)=true)(k14:(c.maps==(fn.params.toList++s.plain.varTypes P).any (P.mapsRec ·))=true)(k15:(c.ifaces==(fn.params.toList++s.plain.varTypes P).any (P.ifacesRec ·))=true)(k16:(c.mapsOut==P.mapsAmong fn.resultTypes.toList)=true)(k17:(c.loops==(fn.params.toList++s.plain.varTypes P).any (P.loopsFrom ·))=true)(k18:(c.wideKeys==(fn.params.toList++s.plain.varTypes P++fn.resultTypes.toList).any (P.wideKeysFrom ·))=true)(k19:s.vars.all (P.varReadable ·)=true)(k20:fn.resultTypes.all (fun t=>P.readableRec t&&decide (t<P.types.size))=true)(k21:(c.ifacesOut==fn.resultTypes.toList.any (P.ifacesRec ·))=true)(k22:(c.loopsOut==fn.resultTypes.toList.any (P.loopsFrom ·))=true)(k23:(c.plainKeys==P.plainKeys)=true)(k24:c.shortTexts.isNone=true)(k25:P.stopsHeard=true)(k26:P.mayEnter=true)(k27:(c.lifted==P.liftsFinal)=true)(k28:(P.make==some c.make)=true)(k29:(c.kinds==(if c.domain.isEmpty then [] else fn.params.toList.map fun t=>match P.underlying t with|some (.int k)=>some k|_=>none))=true)(k30:(c.pinned==c.pinnedBy)=true)(k31:(c.veiled==(fn.params.toList++s.plain.varTypes P++fn.resultTypes.toList).any (P.veiledRec ·))=true)(k32:c.veiledFits P fn.params.toList (fn.params.toList++s.plain.varTypes P++fn.resultTypes.toList)=true):joinedFacts P f fn s c=true:=by unfold joinedFacts;simp only[Bool.and_eq_true];exact⟨⟨⟨⟨⟨⟨⟨⟨⟨⟨⟨⟨⟨⟨⟨⟨⟨⟨⟨⟨⟨⟨⟨⟨⟨⟨⟨⟨⟨⟨⟨k1,k2⟩,k3⟩,k4⟩,k5⟩,k6⟩,k7⟩,k8⟩,k9⟩,k10⟩,k11⟩,k12⟩,k13⟩,k14⟩,k15⟩,k16⟩,k17⟩,k18⟩,k19⟩,k20⟩,k21⟩,k22⟩,k23⟩,k24⟩,k25⟩,k26⟩,k27⟩,k28⟩,k29⟩,k30⟩,k31⟩,k32⟩
end Go.PK
namespace Go.PK
theorem Upd.symm{H H':List It}{x x':It}(h:Upd H x x' H'):Upd H' x' x H:=by
 induction h with
 | here=>exact .here
 | there h ih=>exact .there ih
theorem spl_set{v:Value}:∀ {cs:List Value} {n:Nat},n<cs.length→bP cs n [v]=cs.set n v
 | [],_,h=>by simp at h
 | c::cs,0,_=>by cases cs<;>simp[bP]
 | c::cs,n+1,h=>by simp only[bP,List.set_cons_succ];rw[spl_set (by simpa using h)]
theorem set_range{α:Type}{f f':Nat→α}{n j:Nat}{v:α}(h:∀q,q≠j→f' q=f q)(hv:f' j=v):((List.range n).map f).set j v=(List.range n).map f':=by
 apply List.ext_getElem?;intro q;rw[List.getElem?_set];by_cases hq:j=q
 ·subst hq;by_cases hn:j<n
  ·simp[hn,hv]
  ·simp[hn]
 ·simp only[hq,if_false,List.getElem?_map];by_cases hn:q<n
  ·simp[hn,h q (Ne.symm hq)]
  ·simp[hn]
theorem spl_range{f f':Nat→Value}{n j:Nat}{v:Value}(hj:j<n)(h:∀q,q≠j→f' q=f q)(hv:f' j=v):bP ((List.range n).map f) j [v]=(List.range n).map f':=by rw[spl_set (by simpa using hj),set_range h hv]
section
variable {P:Program} {L:List Oper} {ef bk:List Nat} {tq:Tq} {Q:Exit→Act→World→Prop} {N:Fm} {E:Env} {w0:World} {S:List Nat} {I H:List It} {i:Nat} {l:Sq}
variable {d:Nat} {x y z:Operand} {ty t yt:TypeId} {pos:String} {af:Array Edge} {g:Option (Nat×Bool)} {v:Value} {k k':IntKind} {m n:Int}
theorem cel_own{b sz n:Nat}{cs:List Value}{T:TypeId}(hl:cs.length=n*sz)(hm:n≤maxLen)(w:World)(h:(cel b cs T).A w):(own (some b) n T sz n cs).A w:=
 ⟨hl,Nat.le_refl _,hm,[],⟨_,by rw[List.append_nil];exact h,.inl rfl⟩,by rw[List.append_nil];exact hl⟩
theorem ao{e:TypeId}{size len:Nat}{zs:List Value}{ps:Array (Nat×Operand)}{vs:List (Nat×Value)}{z:Value}(cs:List Value)(hu:∀w,(underlying t).run P w=.ok (.slice e) w:=by exact KU.h)(hs:∀w,(sizeOf e).run P w=.ok size w:=by exact KS.h)
  (hz:∀w,(zeroValue e).run P w=.ok z w:=by exact KZ.h) (hzc:z.cells=zs.toArray:=by exact rfl) (hsz:zs.length=size:=by exact rfl) (hpos:0<size:=by decide) (hlen:len*size≤16777216:=by decide) (hcl:cs.length=len*size:=by exact rfl) (hml:len≤16777216:=by decide)
  (ho:b7 L i=some ⟨some d,.buildSlice t len ps,ty,pos,af,g⟩) (hw:aG L E ⟨some d,.buildSlice t len ps,ty,pos,af,g⟩=true:=by exact rfl) (hN:Nat.blt d N.n=true:=by exact rfl) (hi:ef.contains i=true:=by exact rfl)
  (hx:iN E ps.toList=some vs:=by exact rfl) (hf:bX (fun j=>some (j*size,size)) (cT zs len) vs=some cs:=by exact rfl)
  (h:∀b,RL P L ef bk tq Q l N ((d,.slice (some ⟨b,0,none⟩) len len)::E) w0 S I (own (some b) len e size len cs::H)):RL P L ef bk tq Q (.cons i l) N E w0 S I H:=
 RL.make (x:=fun b=>own (some b) len e size len cs) (u:=fun b=>.slice (some ⟨b,0,none⟩) len len) ho hw hi rfl hN (fun a w ha hC=>by
  obtain⟨w',h1,h2,h3⟩:=run_buildSlice cs hu hs hz hzc hsz hpos hlen (pos:=pos) (ty:=ty) (af:=af) (g:=g) (d:=d) (w:=w) ha hx hf
  exact⟨w',h1,h2,cel_own hcl (by unfold maxLen;omega) w' h3,rfl⟩) h
theorem Src.ownS{b cap sz nn:Nat}{e:TypeId}{xs:List Value}(hm:PK.own (some b) cap e sz nn xs∈H):Src I H (some ⟨b,0,none⟩) nn sz xs:=Src.own (ob:=some b) hm
theorem cd{e:TypeId}{sz bytes:Nat}{ob:Option Nat}{cap nn mm c2:Nat}{xs news:List Value}{p2:Option Addr}{B:List It}{vx:Value}(T:ElemT P t e sz bytes:=by exact KE.h)(ho:b7 L i=some ⟨some d,.call ⟨.builtin .append,#[x,y],#[t,t]⟩,ty,pos,af,g⟩)(hw:aG L E ⟨some d,.call ⟨.builtin .append,#[x,y],#[t,t]⟩,ty,pos,af,g⟩=true:=by exact rfl)(hN:Nat.blt d N.n=true:=by exact rfl)(hi:ef.contains i=true:=by exact rfl)(hb:bk.contains i=true:=by exact rfl)(hx:E.ev x=some vx:=by exact rfl)(hy:E.ev y=some (.slice p2 mm c2):=by exact rfl)(hp:Pick H [PK.own ob cap e sz nn xs] B∧vx=aE ob nn cap)(hs:Src I H p2 mm sz news)(h1:∀u∈news,u.oneCell'=true)(hm:nn+mm≤maxLen)(hby:(nn+mm)*bytes≤140737488355328)(h:∀ob' cap',(nn+mm=0∨ob'.isSome=true)→RL P L ef bk tq Q l N ((d,aE ob' (nn+mm) cap')::E) w0 S I (PK.own ob' cap' e sz (nn+mm) (xs++news)::B)):RL P L ef bk tq Q (.cons i l) N E w0 S I H:=by obtain⟨hp,rfl⟩:=hp;exact RL.append T ho hw hN hi hb hx hy hs h1 hm hby hp h
theorem gp{v':Value}(ho:b7 L i=some ⟨some d,.binOp .quo t x y yt,ty,pos,af,g⟩)(hw:aG L E ⟨some d,.binOp .quo t x y yt,ty,pos,af,g⟩=true)(hN:Nat.blt d N.n=true)
  (hx:E.ev x=some (.int k m)) (hy:E.ev y=some (.int k n)) (hn:n≠0:=by decide) (hv:Value.int k (k.wrap (m.tdiv n))=v') (h:RL P L ef bk tq Q l N ((d,v')::E) w0 S I H):RL P L ef bk tq Q (.cons i l) N E w0 S I H:=
 RL.quo ho hw hN hx hy hn (hv▸h)
theorem RL.remX{v':Value}(ho:b7 L i=some ⟨some d,.binOp .rem t x y yt,ty,pos,af,g⟩)(hw:aG L E ⟨some d,.binOp .rem t x y yt,ty,pos,af,g⟩=true)(hN:Nat.blt d N.n=true)
  (hx:E.ev x=some (.int k m)) (hy:E.ev y=some (.int k n)) (hn:n≠0) (hv:Value.int k (m.tmod n)=v') (h:RL P L ef bk tq Q l N ((d,v')::E) w0 S I H):RL P L ef bk tq Q (.cons i l) N E w0 S I H:=
 RL.rem ho hw hN hx hy hn (hv▸h)
theorem bE{ob:Option Nat}{cap sz n n':Nat}{e:TypeId}{xs xs':List Value}(hn:n=n')(hx:xs=xs'):own ob cap e sz n xs=own ob cap e sz n' xs':=by rw[hn,hx]
theorem CW.tell{c:Code}{ob:Option Nat}{cap sz nn:Nat}{e:TypeId}{xs:List Value}{B:List It}(hp:Pick H [PK.own ob cap e sz nn xs] B)(h:(S=[]→∀c∈(PK.sls (ob.map fun b=>⟨b,0,none⟩) sz nn xs).bs,w0.heap.size≤c)→CW P c Q N E w0 S (PK.sls (ob.map fun b=>⟨b,0,none⟩) sz nn xs::I) B):CW P c Q N E w0 S I H:=by
 have hbs:∀c∈(PK.sls (ob.map fun b=>⟨b,0,none⟩) sz nn xs).bs,c∈(PK.own ob cap e sz nn xs).bs:=by
  intro c hc;by_cases hn:nn=0
  ·simp[PK.sls,hn] at hc
  ·cases ob<;>simp_all [PK.sls,PK.own]
 refine aR (p:=S=[]→∀c∈(PK.sls (ob.map fun b=>⟨b,0,none⟩) sz nn xs).bs,w0.heap.size≤c) (fun w hC hS c hc=>?_) (fun hf=>?_)
 ·have hm:c∈bss H:=mem_bss.2 ⟨_,hp.memA _ (List.Mem.head _),hbs c hc⟩;by_cases hlt:c<w0.heap.size
  ·have:=hC.own c hm hlt;rw[hS] at this;cases this
  ·omega
 ·refine CW.freeze hp (CW.also _ (fun w hw=>ia (hw.i _ (List.Mem.head _))) (fun c hc=>mem_bss.2 ⟨_,List.Mem.head _,hbs c hc⟩) (CW.les (fun x hx=>?_) (Les.refl _) (h hf)));rcases List.mem_cons.1 hx with rfl|hx
  ·exact List.Mem.head _
  ·exact List.mem_cons_of_mem _ (List.mem_cons_of_mem _ hx)
theorem Lend.many{F J:List It}(h:∀x∈J,x∈I):Lend I F J:=by
 induction J with
 | nil=>exact .nil
 | cons x J ih=>exact .inI (h x (by simp)) (ih (fun y hy=>h y (by simp[hy])))
theorem Lend.subP{F J:List It}{p:Option Addr}{sz nn lo k cap:Nat}{xs:List Value}(hm:PK.sls p sz nn xs∈I)(hk:lo+k≤nn)(hc:nn≤cap)(h:Lend I F J):
  Lend I F (PK.sls (if cap=lo then p else p.map (·.add (lo*sz))) sz k ((xs.drop (lo*sz)).take (k*sz))::J):=
 .of (fun _ hw=>sls_sub (hw.i _ hm) hk hc) (fun c hx=>.inl (mem_bss.2 ⟨_,hm,bs_sub hk c hx⟩)) h
end
def txt(l:List B8):ByteArray:=⟨(l.map UInt8.ofBitVec).toArray⟩
theorem txt_size(l:List B8):(txt l).size=l.length:=by simp[txt,ByteArray.size]
theorem txt_of(s:ByteArray):∃l,s=txt l:=by
 refine⟨s.data.toList.map UInt8.toBitVec,?_⟩
 cases s with
 | mk d=>
  have:(d.toList.map UInt8.toBitVec).map UInt8.ofBitVec=d.toList:=by
   rw[List.map_map];conv=>rhs;rw[←List.map_id d.toList]
   apply List.map_congr_left;intro b _;rfl
  simp only[txt,this]
section
variable {P:Program} {L:List Oper} {ef bk:List Nat} {tq:Tq} {Q:Exit→Act→World→Prop} {N:Fm} {E:Env} {w0:World} {S:List Nat} {I H:List It} {i:Nat} {l:Sq}
variable {d:Nat} {x y z:Operand} {ty t yt:TypeId} {pos:String} {af:Array Edge} {g:Option (Nat×Bool)} {v:Value} {k k':IntKind} {m n:Int}
theorem iC{e:TypeId}{p:Option Addr}{len cap nn:Nat}(hu:∀w,(underlying t).run P w=.ok (.array nn e) w:=by exact KU.h)(ho:b7 L i=some ⟨some d,.sliceToArrayPointer t x,ty,pos,af,g⟩)(hw:aG L E ⟨some d,.sliceToArrayPointer t x,ty,pos,af,g⟩=true)(hN:Nat.blt d N.n=true)
  (hx:E.ev x=some (.slice p len cap)) (hl:nn≤len) (h:RL P L ef bk tq Q l N ((d,.pointer p)::E) w0 S I H):RL P L ef bk tq Q (.cons i l) N E w0 S I H:=
 bN ho hw rfl hN (fun a w ha=>by
  have: ¬len<nn:=by omega
  simp[execOp,ha.ev hx,Instr.arrayAt,hu,this]) h
theorem RL.sliceAll{e:TypeId}{b off len sz:Nat}(hu:∀w,(underlying t).run P w=.ok (.array len e) w)(hs:∀w,(sizeOf e).run P w=.ok sz w)(hl:0<len)(ho:b7 L i=some ⟨some d,.slice t x none none none,ty,pos,af,g⟩)(hw:aG L E ⟨some d,.slice t x none none none,ty,pos,af,g⟩=true)(hN:Nat.blt d N.n=true)
  (hx:E.ev x=some (.pointer (some ⟨b,off,none⟩))) (h:RL P L ef bk tq Q l N ((d,.slice (some ⟨b,off,none⟩) len len)::E) w0 S I H):RL P L ef bk tq Q (.cons i l) N E w0 S I H:=
 RL.sliceA (lo:=0) (hi:=len) hu hs ho hw hN hx rfl rfl (Nat.zero_le _) (Nat.le_refl _) hl (by simpa using h)
theorem aT{b nn:Nat}{vs:List Value}{T:TypeId}(hag:∀w,(isAgg t).run P w=.ok true w:=by exact KA.h)(hs:∀w,(sizeOf t).run P w=.ok nn w:=by exact KS.h)(ho:b7 L i=some ⟨some d,.load t x,ty,pos,af,g⟩)(hw:aG L E ⟨some d,.load t x,ty,pos,af,g⟩=true:=by exact rfl)(hN:Nat.blt d N.n=true:=by exact rfl)
  (hx:E.ev x=some (.pointer (some ⟨b,0,none⟩)):=by exact rfl) (hm:PK.cel b vs T∈H:=by exact mQ) (hl:vs.length=nn) (h:RL P L ef bk tq Q l N ((d,.agg vs.toArray)::E) w0 S I H) (ht:tq.l.contains i=false:=by rfl):RL P L ef bk tq Q (.cons i l) N E w0 S I H:=
 ak hag (by rw[hl];exact hs) ho hw hN hx (Rds.all hm) h ht
theorem RL.loadWI{b nn:Nat}{vs:List Value}{T:TypeId}(hag:∀w,(isAgg t).run P w=.ok true w)(hs:∀w,(sizeOf t).run P w=.ok nn w)(ho:b7 L i=some ⟨some d,.load t x,ty,pos,af,g⟩)(hw:aG L E ⟨some d,.load t x,ty,pos,af,g⟩=true)(hN:Nat.blt d N.n=true)
  (hx:E.ev x=some (.pointer (some ⟨b,0,none⟩))) (hm:PK.cel b vs T∈I) (hl:vs.length=nn) (h:RL P L ef bk tq Q l N ((d,.agg vs.toArray)::E) w0 S I H) (ht:tq.l.contains i=false:=by rfl):RL P L ef bk tq Q (.cons i l) N E w0 S I H:=
 ak hag (by rw[hl];exact hs) ho hw hN hx (Rds.allI hm) h ht
theorem an{b nn:Nat}{cs vs:List Value}{T:TypeId}{H':List It}(hs:∀w,(sizeOf t).run P w=.ok nn w:=by exact KS.h)(ho:b7 L i=some ⟨none,.store t x y,ty,pos,af,g⟩)(hw:aG L E ⟨none,.store t x y,ty,pos,af,g⟩=true:=by exact rfl)
  (hi:ef.contains i=true:=by exact rfl) (hb:bk.contains i=true:=by exact rfl) (hx:E.ev x=some (.pointer (some ⟨b,0,none⟩)):=by exact rfl) (hy:E.ev y=some v:=by exact rfl) (hc:v.cells=vs.toArray:=by exact rfl) (h1:dO vs=true:=by exact rfl)
  (hu:Upd H (PK.cel b cs T) (PK.cel b vs T) H':=by exact uE) (hv:vs.length=nn:=by exact rfl) (hl:cs.length=nn:=by exact rfl) (h:RL P L ef bk tq Q l N E w0 S I H'):RL P L ef bk tq Q (.cons i l) N E w0 S I H:=
 aj (spl_all (by rw[hv,hl])) (by rw[hv];exact hs) ho hw hi hb hx hy hc h1 hu (by omega) h
theorem cU{fn:Func}{tt:Tmp}{T C:TypeId}{b nn:Nat}{vs:List Value}(hf:fn.results= #[.cell tt T])(ht:E.get tt=some (.pointer (some ⟨b,0,none⟩)))(hag:∀w,(isAgg T).run P w=.ok true w)(hs:∀w,(sizeOf T).run P w=.ok nn w)(hm:PK.cel b vs C∈H)(hl:vs.length=nn):
  ∀a w,Ag N a E→Cls w0 S I H w→(results fn a.tmps).run P w=.ok (.agg vs.toArray) w:=iO hf ht hag (by rw[hl];exact hs) (Rds.all hm)
theorem RL.loadP{b off nn:Nat}{cs:List Value}{T:TypeId}(hag:∀w,(isAgg t).run P w=.ok true w)(hs:∀w,(sizeOf t).run P w=.ok nn w)(ho:b7 L i=some ⟨some d,.load t x,ty,pos,af,g⟩)(hw:aG L E ⟨some d,.load t x,ty,pos,af,g⟩=true)(hN:Nat.blt d N.n=true)
  (hx:E.ev x=some (.pointer (some ⟨b,off,none⟩))) (hm:PK.cel b cs T∈H) (hl:off+nn≤cs.length) (h:RL P L ef bk tq Q l N ((d,.agg ((cs.drop off).take nn).toArray)::E) w0 S I H) (ht:tq.l.contains i=false:=by rfl):RL P L ef bk tq Q (.cons i l) N E w0 S I H:=
 ak hag (by rw[List.length_take,List.length_drop,Nat.min_eq_left (by omega)];exact hs) ho hw hN hx (Rds.cel hm (fun j u hj=>by
  rw[List.getElem?_take] at hj
  split at hj
  ·rwa[List.getElem?_drop] at hj
  ·cases hj)) h ht
theorem bG{fn:Func}{tt uu:Tmp}{T C:TypeId}{b nn:Nat}{vs:List Value}{v2:Value}(hf:fn.results= #[.cell tt T,.tmp uu])(ht:E.get tt=some (.pointer (some ⟨b,0,none⟩)))(hu:E.get uu=some v2)(hag:∀w,(isAgg T).run P w=.ok true w)(hs:∀w,(sizeOf T).run P w=.ok nn w)(hm:PK.cel b vs C∈H)(hl:vs.length=nn):
  ∀a w,Ag N a E→Cls w0 S I H w→(results fn a.tmps).run P w=.ok (.tuple #[.agg vs.toArray,v2]) w:=fun a w ha hC=>by
 have h1:=ft (P:=P) hag (by rw[hl];exact hs) (Rds.all (I:=I) hm w hC.s)
 simp[results,hf,ha.t tt _ ht,ha.t uu _ hu,asAddr,h1]
theorem gv{b cap sz nn off:Nat}{e:TypeId}{xs vs xs':List Value}{p:Addr}{H':List It}(he:bP xs off vs=xs')(hs:∀w,(sizeOf t).run P w=.ok vs.length w)(ho:b7 L i=some ⟨none,.store t x y,ty,pos,af,g⟩)(hw:aG L E ⟨none,.store t x y,ty,pos,af,g⟩=true)(hi:ef.contains i=true)(hb:bk.contains i=true)(hx:E.ev x=some (.pointer (some p)))(hpp:p=(⟨b,0,none⟩:Addr).add off)(hy:E.ev y=some v)(hc:v.cells=vs.toArray)(h1:dO vs=true)(hl:off+vs.length≤xs.length)(hu:Upd H (own (some b) cap e sz nn xs) (own (some b) cap e sz nn xs') H')(h:RL P L ef bk tq Q l N E w0 S I H'):RL P L ef bk tq Q (.cons i l) N E w0 S I H:=by
 subst he;refine RL.turn0 ho hw hi hb rfl hu rfl (fun a w ha hC=>?_) h;obtain⟨q1,q2,q3,rest,⟨f,hA,hfz⟩,q5⟩:=hC.s.h _ hu.mem;have hst:=eR (P:=P) b off e f vs 0 (xs++rest).toArray w (hfz.imp id (fun h=>by rw[List.size_toArray,q5];exact h)) hA (by simp;omega) (dI h1);refine⟨w.setRow b (bP xs off vs++rest).toArray,?_,Keeps.setRow,?_⟩
 ·simp only[Nat.add_zero] at hst;have e2:(xs++rest).take off++vs++(xs++rest).drop (off+vs.length)=bP xs off vs++rest:=by rw[dH _ _ _ hl,List.take_append_of_le_length (by omega),List.drop_append_of_le_length hl,←List.append_assoc]
  rw[bn,Nat.zero_add] at hpp;subst hpp;rw[e2] at hst;simp[execOp,ha.ev hx,ha.ev hy,Instr.storeAt,Instr.sureAddr,storeVar,hs,hc,hst]
 ·refine⟨by rw[gD];exact q1,q2,q3,rest,⟨f,setRow_heap w b _ _ e _ hA,hfz⟩,?_⟩;rw[List.length_append,gD,←List.length_append];exact q5
end
noncomputable def Rdr.text{P:Program}{t:TypeId}(hu:P.underlying t=some .string)(hc:P.cellsOf t=1):Rdr P t (List B8):=
 (Rdr.string hu hc).map (fun l=>[.string (txt l)]) (fun _=>[]) (fun l=>l.length≤maxLen) (fun l=>.string (txt l))
  (fun s hs=>by
   obtain⟨l,rfl⟩:=txt_of s
   exact⟨l,rfl,by rw[←txt_size];exact hs,by simp⟩)
  (fun _ _=>by simp[hc]) (fun hv h=>dQ (dw hv (by simp[hu]) (by simp[hu])) h)
section
variable {P:Program} {L:List Oper} {ef bk:List Nat} {tq:Tq} {Q:Exit→Act→World→Prop} {N:Fm} {E:Env} {w0:World} {S:List Nat} {I H:List It} {i:Nat} {l:Sq}
variable {d:Nat} {x y z:Operand} {ty t yt:TypeId} {pos:String} {af:Array Edge} {g:Option (Nat×Bool)} {v:Value} {k k':IntKind} {m n:Int}
theorem run_strBytes{e:TypeId}(hs:∀w,(underlying t).run P w=.ok .string w)(hd:∀w,(underlying yt).run P w=.ok (.slice e) w)(he:∀w,(underlying e).run P w=.ok (.int .u8) w)(bs:List B8)(hb:bs.length≤1000000000)(w:World):∃cap w',(convert t yt (.string (txt bs))).run P w=.ok (.slice (some ⟨w.heap.size,0,none⟩) bs.length cap) w'∧Grow w w'∧(own (some w.heap.size) cap e 1 bs.length (bs.map U8)).A w':=by
 have hsz:=txt_size bs;have hge:=grownCap_ge w bs.length 0 e;have hcm:grownCap w bs.length 0 e≤maxLen:=grownCap_le_maxLen w bs.length 0 e (by unfold maxLen;omega);let arr:Array Value:=(txt bs).data.map (fun b=>Value.int .u8 (b.toNat:Int))++Array.replicate (grownCap w bs.length 0 e-bs.length) (.int .u8 0);have harr:arr=(bs.map U8++List.replicate (grownCap w bs.length 0 e-bs.length) (Value.int .u8 0)).toArray:=by apply Array.toList_inj.1;simp only[arr,txt,Array.toList_append,Array.toList_map,List.map_map,Array.toList_replicate];congr 1
 have hal:arr.size=grownCap w bs.length 0 e:=by rw[harr];simp;omega
 have hh:(w.drew.alloc (.cells arr e)).heap[w.heap.size]?=some (.cells arr e (0,0)):=cH w.drew _;have hm:=run_mark (P:=P) hh;have hrun:(convert t yt (.string (txt bs))).run P w=.ok (.slice (some ⟨w.heap.size,0,none⟩) bs.length (grownCap w bs.length 0 e)) ((w.drew.alloc (.cells arr e)).freeze ⟨w.heap.size,arr.size,none⟩ 1):=by simp only[convert,Sem.run_bind,hs,hd,he,Result.andThen_ok];simp only[Conv.stringToBytes,hsz];simp only[arr,grownCap] at hm;simp[Question.forced,newRow,grownCap,hm,arr]
 refine⟨_,_,hrun,⟨by simp[World.freeze];rfl,by simp[World.freeze],by simp[World.freeze];rfl,by simp[World.freeze],fun c hc _=>?_,by simp only[World.freeze,Nat.one_ne_zero,if_false];exact by first|exact Nat.le_succ _|exact Nat.le_refl 0⟩,?_⟩
 ·have hne: ¬w.heap.size=c:=by omega
  have h2:=ir w.drew (.cells arr e) (b:=c) hc;simp only[World.freeze,Nat.one_ne_zero,if_false];rw[Array.getElem?_modify,if_neg hne];exact h2
 ·refine⟨by simp,hge,hcm,List.replicate (grownCap w bs.length 0 e-bs.length) (Value.int .u8 0),⟨(arr.size,arr.size+1),?_,.inr (by rw[Nat.mul_one,hal];exact Nat.le_refl _)⟩,by rw[←List.size_toArray,←harr,hal,Nat.mul_one]⟩;rw[←harr];simp only[World.freeze,Nat.one_ne_zero,if_false];rw[Array.getElem?_modify,if_pos rfl,hh];simp
theorem RL.strBytes{e:TypeId}{bs:List B8}(hs:∀w,(underlying t).run P w=.ok .string w:=by exact KU.h)(hd:∀w,(underlying yt).run P w=.ok (.slice e) w:=by exact KU.h)(he:∀w,(underlying e).run P w=.ok (.int .u8) w:=by exact KU.h)(hb:bs.length≤1000000000)(ho:b7 L i=some ⟨some d,.convert t yt x,ty,pos,af,g⟩)(hw:aG L E ⟨some d,.convert t yt x,ty,pos,af,g⟩=true)(hN:Nat.blt d N.n=true)(hi:ef.contains i=true)(hx:E.ev x=some (.string (txt bs)))(h:∀b cap,RL P L ef bk tq Q l N ((d,.slice (some ⟨b,0,none⟩) bs.length cap)::E) w0 S I (PK.own (some b) cap e 1 bs.length (bs.map U8)::H)):RL P L ef bk tq Q (.cons i l) N E w0 S I H:=by
 refine eZ ho hw hi rfl hN (fun a w ha hC=>?_);obtain⟨cap,w',h1,h2,h3⟩:=run_strBytes hs hd he bs hb w;have hr:(execOp a.eval ⟨some d,.convert t yt x,ty,pos,af,g⟩).run P w=.ok (.value (.slice (some ⟨w.heap.size,0,none⟩) bs.length cap)) w':=by simp[execOp,ha.ev hx,h1]
 unfold dD;rw[hr];exact⟨I,_,hC.more h2 h3 (by simp[PK.own]) (by simp[PK.own]),fun _ h=>h,fun _ _ h=>h.less,h _ _⟩
end
inductive EK where|bool|int (k:IntKind)|str
def EK.fit:EK→Value→Prop
 | .bool,.bool _=>True
 | .int q,.int q' n=>q'=q∧gi q n
 | .str,.string s=>s.size≤maxLen
 | _,_=>False
def Fits:List EK→List Value→Prop
 | [],[]=>True
 | k::ks,c::cs=>k.fit c∧Fits ks cs
 | _,_=>False
theorem Fits.length:∀ {ks:List EK} {cs:List Value},Fits ks cs→ks.length=cs.length
 | [],[],_=>rfl
 | _::_,_::_,h=>by simp[Fits.length h.2]
 | [],_::_,h=>h.elim
 | _::_,[],h=>h.elim
theorem Fits.append:∀ {a b:List EK} {c d:List Value},Fits a c→Fits b d→Fits (a++b) (c++d)
 | [],_,[],_,_,h=>h
 | _::_,_,_::_,_,h,h2=>⟨h.1,h.2.append h2⟩
 | [],_,_::_,_,h,_=>h.elim
 | _::_,_,[],_,h,_=>h.elim
theorem Fits.split:∀ {a b:List EK} {cs:List Value},Fits (a++b) cs→Fits a (cs.take a.length)∧Fits b (cs.drop a.length)
 | [],_,_,h=>⟨trivial,h⟩
 | _::_,_,[],h=>h.elim
 | _::_,_,_::_,h=>⟨⟨h.1,h.2.split.1⟩,h.2.split.2⟩
theorem Fits.one{k:EK}{v:Value}(h:k.fit v):Fits [k] [v]:=⟨h,trivial⟩
theorem Fits.cons{k:EK}{ks:List EK}{v:Value}{vs:List Value}(h:k.fit v)(hs:Fits ks vs):Fits (k::ks) (v::vs):=⟨h,hs⟩
theorem Fits.map{α:Type}{k:EK}{f:α→Value}(h:∀a,k.fit (f a)):∀ {n:Nat} {l:List α},l.length=n→Fits (List.replicate n k) (l.map f)
 | 0,[],_=>trivial
 | n+1,a::l,hl=>⟨h a,Fits.map h (by simpa using hl)⟩
 | 0,_::_,hl=>by simp at hl
 | n+1,[],hl=>by simp at hl
def litOf:Value→Lit
 | .bool b=>.bool b
 | .int q n=>.int q n
 | .string s=>.string s.data.toList
 | _=>.bool false
theorem Fits.inj:∀ {ks:List EK} {c d:List Value},Fits ks c→Fits ks d→c.map litOf=d.map litOf→c=d
 | [],[],[],_,_,_=>rfl
 | k::ks,x::c,y::d,h,g,e=>by
  simp only[List.map_cons,List.cons.injEq] at e
  rw[Fits.inj h.2 g.2 e.2]
  obtain⟨h,-⟩:=h
  obtain⟨g,-⟩:=g
  congr 1
  have e:=e.1
  cases k<;>cases x<;>simp only[EK.fit] at h<;>cases y<;>simp only[EK.fit] at g<;>simp only[litOf,Lit.bool.injEq,Lit.int.injEq,Lit.string.injEq] at e
  ·exact congrArg _ e
  ·obtain⟨e1,e2⟩:=e
   rw[e1,e2]
  ·rename_i s1 s2 _
   obtain⟨⟨l1⟩⟩:=s1
   obtain⟨⟨l2⟩⟩:=s2
   simp only at e
   rw[e]
 | [],_::_,_,h,_,_=>h.elim
 | [],_,_::_,_,h,_=>h.elim
 | _::_,[],_,h,_,_=>h.elim
 | _::_,_,[],_,h,_=>h.elim
def shapeF(P:Program)(sh:TypeId→Option (List EK)):Nat→List Field→Option (List EK)
 | _,[]=>some []
 | off,f::fs=>
  match sh f.type with
  | none=>none
  | some ks => if f.offset = off ∧ ks.length = P.cellsOf f.type ∧ f.name ≠ "_" then (shapeF P sh (off + ks.length) fs).map (ks ++ ·) else none
def shape(P:Program):Nat→TypeId→Option (List EK)
 | 0,_=>none
 | d+1,t=>
  match P.underlying t with
  | some .bool=>some [.bool]
  | some (.int q)=>some [.int q]
  | some .string=>some [.str]
  | some (.array n e)=>
   match shape P d e with
   | none=>none
   | some ks=>if ks.length=P.cellsOf e∧P.cellsOf t=n*P.cellsOf e then some (List.replicate n ks).flatten else none
  | some (.struct fs)=>
   match shapeF P (shape P d) 0 fs.toList with
   | none=>none
   | some ks=>if ks.length=P.cellsOf t then some ks else none
  | _=>none
theorem mapM_items{P:Program}{d:Nat}{e:TypeId}{ks:List EK}{c:Nat}(hc:ks.length=c)(ih:∀ {cs:List Value},Fits ks cs→P.keyLits d e cs=some (cs.map litOf)):∀(n i:Nat) (cs:List Value),Fits (List.replicate n ks).flatten (cs.drop (i*c))→
  ((List.range' i n).mapM fun j=>P.keyLits d e ((cs.drop (j*c)).take c)).map List.flatten=some ((cs.drop (i*c)).map litOf)
 | 0,i,cs,h=>by
  have:=h.length
  simp only[List.replicate_zero,List.flatten_nil,List.length_nil] at this
  rw[List.length_eq_zero_iff.1 this.symm]
  simp
 | n+1,i,cs,h=>by
  rw[List.replicate_succ,List.flatten_cons] at h
  obtain⟨h1,h2⟩:=h.split
  rw[List.drop_drop,hc,show i*c+c=(i+1)*c by rw[Nat.add_mul];omega] at h2
  have g:=mapM_items hc ih n (i+1) cs h2
  rw[hc] at h1
  rw[List.range'_succ,List.mapM_cons,ih h1]
  simp only[Option.map_eq_some_iff] at g
  obtain⟨asq,ha,g⟩:=g
  simp only[Option.bind_eq_bind,Option.bind_some,ha,Option.pure_def,Option.map_some,List.flatten_cons,g,←List.map_append,Option.some.injEq]
  congr 1
  rw[show(i+1)*c=i*c+c by rw[Nat.add_mul];omega,←List.drop_drop,List.take_append_drop]
theorem mapM_fields{P:Program}{d:Nat}(ih:∀ {t:TypeId} {ks:List EK} {cs:List Value},shape P d t=some ks→Fits ks cs→P.keyLits d t cs=some (cs.map litOf)):∀(fs:List Field) (off:Nat) (ks:List EK) (cs:List Value),shapeF P (shape P d) off fs=some ks→Fits ks (cs.drop off)→
  (fs.mapM fun f => P.keyLits d f.type ((cs.drop f.offset).take (P.cellsOf f.type))).map List.flatten = some ((cs.drop off).map litOf) ∧ ∀ f ∈ fs, f.name ≠ "_"
 | [],off,ks,cs,hs,h=>by
  simp only[shapeF,Option.some.injEq] at hs
  subst hs
  have:=h.length
  simp only[List.length_nil] at this
  rw[List.length_eq_zero_iff.1 this.symm]
  simp
 | f::fs,off,ks,cs,hs,h=>by
  simp only[shapeF] at hs
  cases h1:shape P d f.type with
  | none=>simp[h1] at hs
  | some k1=>
   simp only[h1] at hs
   split at hs
   ·rename_i hq
    obtain⟨ho,hc,hn⟩:=hq
    simp only[Option.map_eq_some_iff] at hs
    obtain⟨k2,h2,rfl⟩:=hs
    obtain⟨f1,f2⟩:=h.split
    rw[List.drop_drop] at f2
    obtain⟨g,gn⟩:=mapM_fields ih fs _ k2 cs h2 f2
    refine⟨?_,fun x hx=>?_⟩
    ·rw[List.mapM_cons,ho,←hc,ih h1 f1]
     simp only[Option.map_eq_some_iff] at g
     obtain⟨asq,ha,g⟩:=g
     simp only[Option.bind_eq_bind,Option.bind_some,ha,Option.pure_def,Option.map_some,List.flatten_cons,g,←List.map_append,Option.some.injEq]
     congr 1
     rw[←List.drop_drop,List.take_append_drop]
    ·rcases List.mem_cons.1 hx with rfl|hx
     ·exact hn
     ·exact gn x hx
   ·simp at hs
theorem gq{P:Program}:∀ {d:Nat} {t:TypeId} {ks:List EK} {cs:List Value},shape P d t=some ks→Fits ks cs→P.keyLits d t cs=some (cs.map litOf)
 | 0,_,_,_,h,_=>by simp[shape] at h
 | d+1,t,ks,cs,h,hf=>by
  unfold shape at h
  unfold Program.keyLits
  cases hu:P.underlying t with
  | none=>simp[hu] at h
  | some kd=>
   have one:∀ {k:EK},Fits [k] cs→∃c,cs=[c]∧k.fit c:=by
    intro k hk
    match cs,hk with
    | [c],hk=>exact⟨c,rfl,hk.1⟩
   cases kd
   case bool=>
    simp only[hu,Option.some.injEq] at h
    subst h
    obtain⟨c,rfl,hc⟩:=one hf
    cases c<;>simp[EK.fit] at hc
    rfl
   case int q=>
    simp only[hu,Option.some.injEq] at h
    subst h
    obtain⟨c,rfl,hc⟩:=one hf
    cases c<;>simp[EK.fit] at hc
    obtain⟨rfl,hc⟩:=hc
    simp only[gi] at hc
    simp[hc,litOf]
   case string=>
    simp only[hu,Option.some.injEq] at h
    subst h
    obtain⟨c,rfl,hc⟩:=one hf
    cases c<;>simp[EK.fit] at hc
    simp[hc,litOf]
   case array n e=>
    simp only[hu] at h
    cases h1:shape P d e with
    | none=>simp[h1] at h
    | some k1=>
     simp only[h1] at h
     split at h
     ·rename_i hq
      simp only[Option.some.injEq] at h
      subst h
      have hl:=hf.length
      rw[List.length_flatten,List.map_replicate,List.sum_replicate_nat,hq.1,←hq.2] at hl
      simp only[←hl,if_true]
      rw[List.range_eq_range']
      have:=mapM_items hq.1 (gq h1) n 0 cs (by simpa using hf)
      simpa using this
     ·simp at h
   case struct fs=>
    simp only[hu] at h
    cases h1:shapeF P (shape P d) 0 fs.toList with
    | none=>simp[h1] at h
    | some k1=>
     simp only[h1] at h
     split at h
     ·rename_i hq
      simp only[Option.some.injEq] at h
      subst h
      obtain⟨g,gn⟩:=mapM_fields (fun {t ks cs}=>gq (d:=d)) fs.toList 0 k1 cs h1 (by simpa using hf)
      have : (fs.all fun x => x.name != "_") = true := by
       rw[Array.all_eq_true_iff_forall_mem]
       intro f hf
       simpa using gn f (Array.mem_toList_iff.2 hf)
      simp only[←hf.length,hq,this,and_self,if_true]
      simpa using g
     ·simp at h
   all_goals (simp[hu] at h;done)
theorem run_equal_flat{P:Program}{t:TypeId}{ks:List EK}{m:Nat}(hm:m≤10000)(hk:P.keyTypeAt m t=true)(hs:shape P m t=some ks)(hw:(match P.underlying t with|some (.array _ _)|some (.struct _)=>true|_=>false)=true)(hcs:P.cellsOf t=ks.length){c d:List Value}(hc:Fits ks c)(hd:Fits ks d){r:Bool}(hr:r=true↔c=d)(w:World):(Op.equal t (.agg c.toArray) (.agg d.toArray)).run P w=.ok r w:=by
 have fm:∀ {c:List Value},Fits ks c→(Value.agg c.toArray).formed P t=true:=by intro c hc;have:=hc.length;simp only[Value.formed];split at hw<;>simp_all
 obtain⟨r',h1,h2⟩:=run_equalIn_deep (10000-m) m t hk w m m (.agg c.toArray) (.agg d.toArray) _ _ (fm hc) (fm hd) (by simpa[Value.cells] using gq hs hc) (by simpa[Value.cells] using gq hs hd);have:r'=r:=by rw[Bool.eq_iff_iff,h2,hr];exact⟨hc.inj hd,fun e=>by rw[e]⟩
 rw[←this,←h1];unfold Op.equal;rw[show 10000-m+m=Op.maxDepth by simp[Op.maxDepth];omega]
section
variable {P:Program} {t:TypeId} {x y:Operand}
theorem neq_flat{ks:List EK}{m:Nat}(hm:m≤10000)(hk:P.keyTypeAt m t=true)(hs:shape P m t=some ks)(hw:(match P.underlying t with|some (.array _ _)|some (.struct _)=>true|_=>false)=true)(hcs:P.cellsOf t=ks.length)(hg:P.eqGuardType P.depth t=false){c d:List Value}(hc:Fits ks c)(hd:Fits ks d){r:Bool}(hr:r=true↔c=d)(w:World):(do eqGuard .neq t x y (.agg c.toArray) (.agg d.toArray);binOp .neq t (.agg c.toArray) (.agg d.toArray):Sem Value).run P w=.ok (.bool (!r)) w:=by simp[eqGuard,binOp,hg,run_equal_flat hm hk hs hw hcs hc hd hr]
end
theorem Src.celI{I H:List It}{b mm sz:Nat}{cs:List Value}{T:TypeId}(hm:PK.cel b cs T∈I)(hl:cs.length=mm*sz):Src I H (some ⟨b,0,none⟩) mm sz cs:=fun w hw=>
 ⟨hl,fun h=>(by cases h),fun a h j u hj=>by cases h;rw[bn,dM (hw.i _ hm),Nat.zero_add];exact hj⟩
theorem seg_at{A B C:List Value}{o n:Nat}(ho:A.length=o)(hn:B.length=n):((A++(B++C)).drop o).take n=B:=by subst ho;subst hn;simp
theorem bI{A B B' C:List Value}{o:Nat}(ho:A.length=o)(hn:B'.length=B.length):bP (A++(B++C)) o B'=A++(B'++C):=by subst ho;rw[dH _ _ _ (by simp;omega),List.take_left',List.append_assoc,hn,←List.drop_drop,List.drop_left',List.drop_left'];all_goals rfl
section
variable {P:Program} {L:List Oper} {ef bk:List Nat} {tq:Tq} {Q:Exit→Act→World→Prop} {N:Fm} {E:Env} {w0:World} {S:List Nat} {I H:List It} {i:Nat} {l:Sq}
variable {d:Nat} {x y z:Operand} {ty t yt:TypeId} {pos:String} {af:Array Edge} {g:Option (Nat×Bool)} {v:Value} {k k':IntKind} {m n:Int}
theorem iX{b off nn:Nat}{cs:List Value}{T:TypeId}(A B C:List Value)(hag:∀w,(isAgg t).run P w=.ok true w:=by exact KA.h)(hs:∀w,(sizeOf t).run P w=.ok nn w:=by exact KS.h)(ho:b7 L i=some ⟨some d,.load t x,ty,pos,af,g⟩)(hw:aG L E ⟨some d,.load t x,ty,pos,af,g⟩=true)(hN:Nat.blt d N.n=true)
  (hx:E.ev x=some (.pointer (some ⟨b,off,none⟩))) (hm:PK.cel b cs T∈H) (he:cs=A++(B++C)) (hA:A.length=off) (hB:B.length=nn) (h:RL P L ef bk tq Q l N ((d,.agg B.toArray)::E) w0 S I H) (ht:tq.l.contains i=false:=by rfl):RL P L ef bk tq Q (.cons i l) N E w0 S I H:=
 RL.loadP hag hs ho hw hN hx hm (by rw[he,List.length_append,List.length_append];omega) (by rw[he,seg_at hA hB];exact h) ht
theorem eX{b off nn:Nat}{cs cs' vs:List Value}{T:TypeId}{H':List It}(A B C:List Value)(hs:∀w,(sizeOf t).run P w=.ok nn w:=by exact KS.h)(ho:b7 L i=some ⟨none,.store t x y,ty,pos,af,g⟩)(hw:aG L E ⟨none,.store t x y,ty,pos,af,g⟩=true)
  (hi:ef.contains i=true) (hb:bk.contains i=true) (hx:E.ev x=some (.pointer (some ⟨b,off,none⟩))) (hy:E.ev y=some v) (hc:v.cells=vs.toArray) (h1:dO vs=true)
  (he:cs=A++(B++C)) (he':A++(vs++C)=cs') (hA:A.length=off) (hB:B.length=nn) (hv:vs.length=nn) (hu:Upd H (PK.cel b cs T) (PK.cel b cs' T) H') (h:RL P L ef bk tq Q l N E w0 S I H'):RL P L ef bk tq Q (.cons i l) N E w0 S I H:=
 aj (by rw[he,bI hA (by rw[hv,hB]),he']) (by rw[hv];exact hs) ho hw hi hb hx hy hc h1 hu (by rw[he,List.length_append,List.length_append];omega) h
end
theorem spl_app{L v:List Value}{k:Nat}:∀A:List Value,bP (A++L) (A.length+k) v=A++bP L k v
 | []=>by simp
 | a::A=>by
  have ih:=spl_app (L:=L) (v:=v) (k:=k) A
  rw[List.cons_append,List.length_cons,show A.length+1+k=A.length+k+1 by omega,List.cons_append,←ih]
  cases v<;>rfl
theorem spl_flat{α:Type}{f:α→List Value}{n:Nat}(a:α):∀ {l:List α} (_:∀a∈l,(f a).length=n) (_:(f a).length=n) {q:Nat} (_:q<l.length),bP (l.flatMap f) (q*n) (f a)=(l.set q a).flatMap f
 | [],_,_,q,h=>by simp at h
 | b::l,hl,ha,0,_=>by
  have e:bP ([]++(f b++l.flatMap f)) 0 (f a)=[]++(f a++l.flatMap f):=bI rfl (by rw[ha,hl b (by simp)])
  rw[Nat.zero_mul]
  simpa using e
 | b::l,hl,ha,q+1,h=>by
  have ih:=spl_flat a (l:=l) (fun c hc=>hl c (by simp[hc])) ha (q:=q) (by simpa using h)
  have hb:=hl b (by simp)
  rw[List.set_cons_succ,List.flatMap_cons,List.flatMap_cons,←ih,←spl_app,hb,Nat.add_mul,Nat.one_mul,Nat.add_comm n]
section
variable {P:Program} {L:List Oper} {ef bk:List Nat} {tq:Tq} {Q:Exit→Act→World→Prop} {N:Fm} {E:Env} {w0:World} {S:List Nat} {I H:List It} {i:Nat} {l:Sq}
variable {d:Nat} {x y z:Operand} {ty t yt:TypeId} {pos:String} {af:Array Edge} {g:Option (Nat×Bool)}
theorem d4{p:Addr}{fo j:Nat}(hf:∀p w,(Instr.fieldAt t (.pointer (some p)) j).run P w=.ok (.pointer (some (p.add fo))) w)(ho:b7 L i=some ⟨some d,.fieldAddr t x j,ty,pos,af,g⟩)(hw:aG L E ⟨some d,.fieldAddr t x j,ty,pos,af,g⟩=true)(hN:Nat.blt d N.n=true)
  (hx:E.ev x=some (.pointer (some p))) (h:RL P L ef bk tq Q l N ((d,.pointer (some (p.add fo)))::E) w0 S I H):RL P L ef bk tq Q (.cons i l) N E w0 S I H:=
 bN ho hw rfl hN (fun a w ha=>by
  simp[execOp,ha.ev hx,hf]) h
theorem RL.loadA{p:Addr}{nn:Nat}{vs:List Value}(hag:∀w,(isAgg t).run P w=.ok true w)(hs:∀w,(sizeOf t).run P w=.ok nn w)(ho:b7 L i=some ⟨some d,.load t x,ty,pos,af,g⟩)(hw:aG L E ⟨some d,.load t x,ty,pos,af,g⟩=true)(hN:Nat.blt d N.n=true)
  (hx:E.ev x=some (.pointer (some p))) (hr:Rds I H p vs) (hl:vs.length=nn) (h:RL P L ef bk tq Q l N ((d,.agg vs.toArray)::E) w0 S I H) (ht:tq.l.contains i=false:=by rfl):RL P L ef bk tq Q (.cons i l) N E w0 S I H:=
 ak hag (by rw[hl];exact hs) ho hw hN hx hr h ht
theorem RL.loadAT{p:Addr}{nn:Nat}{vs:List Value}(hag:∀w,(isAgg t).run P w=.ok true w)(hs:∀w,(sizeOf t).run P w=.ok nn w)(ho:b7 L i=some ⟨some d,.load t x,ty,pos,af,g⟩)(hw:aG L E ⟨some d,.load t x,ty,pos,af,g⟩=true)(hN:Nat.blt d N.n=true)
  (hx:E.ev x=some (.pointer (some p))) (hr:Rds tq.T [] p vs) (hl:vs.length=nn) (h:RL P L ef bk tq Q l N ((d,.agg vs.toArray)::E) w0 S I H):RL P L ef bk tq Q (.cons i l) N E w0 S I H:=
 eB hag (by rw[hl];exact hs) ho hw hN hx hr h
theorem RL.loadWT{b nn:Nat}{vs:List Value}{T:TypeId}(hag:∀w,(isAgg t).run P w=.ok true w)(hs:∀w,(sizeOf t).run P w=.ok nn w)(ho:b7 L i=some ⟨some d,.load t x,ty,pos,af,g⟩)(hw:aG L E ⟨some d,.load t x,ty,pos,af,g⟩=true)(hN:Nat.blt d N.n=true)
  (hx:E.ev x=some (.pointer (some ⟨b,0,none⟩))) (hm:PK.cel b vs T∈tq.T) (hl:vs.length=nn) (h:RL P L ef bk tq Q l N ((d,.agg vs.toArray)::E) w0 S I H):RL P L ef bk tq Q (.cons i l) N E w0 S I H:=
 eB hag (by rw[hl];exact hs) ho hw hN hx (Rds.allI hm) h
end
structure RdI(I:List It)(p:Addr)(v:Value):Prop where
 h:∀H,Rd I H p v
structure RdsI(I:List It)(p:Addr)(vs:List Value):Prop where
 h:∀H,Rds I H p vs
theorem RdI.rd{I H:List It}{p:Addr}{v:Value}(h:RdI I p v):Rd I H p v:=h.h H
theorem aU{I H:List It}{p:Addr}{vs:List Value}(h:RdsI I p vs):Rds I H p vs:=h.h H
theorem aK{place:Nat→Option (Nat×Nat)}{cells vs r:List Value}{j off size:Nat}{v:Value}{rest:List (Nat×Value)}(A B C:List Value)(hp:place j=some (off,size))(hv:v.cells.toList=vs)(hc:cells=A++(B++C))(hA:A.length=off)(hB:B.length=size)(hs:vs.length=size)(h:bX place (A++(vs++C)) rest=some r):bX place cells ((j,v)::rest)=some r:=by rw[bX,hp];simp only[hv];rw[if_neg (by rw[hc,List.length_append,List.length_append];simp;omega),hc,bI hA (by rw[hs,hB])];exact h
theorem cq(l:List Value):(Value.agg l.toArray).cells.toList=l:=by simp[Value.cells]
structure RdsN(I:List It)(p:Addr)(n:Nat)(vs:List Value):Prop where
 h:∀H,Rds I H p vs
 len:vs.length=n
section
variable {P:Program} {L:List Oper} {ef bk:List Nat} {tq:Tq} {Q:Exit→Act→World→Prop} {N:Fm} {E:Env} {w0:World} {S:List Nat} {I H:List It} {i:Nat} {l:Sq}
variable {d:Nat} {x y z:Operand} {ty t yt:TypeId} {pos:String} {af:Array Edge} {g:Option (Nat×Bool)}
theorem RL.loadM{p:Addr}{nn:Nat}{vs:List Value}(hag:∀w,(isAgg t).run P w=.ok true w)(hs:∀w,(sizeOf t).run P w=.ok nn w)(ho:b7 L i=some ⟨some d,.load t x,ty,pos,af,g⟩)(hw:aG L E ⟨some d,.load t x,ty,pos,af,g⟩=true)(hN:Nat.blt d N.n=true)
  (hx:E.ev x=some (.pointer (some p))) (hr:RdsN I p nn vs) (h:RL P L ef bk tq Q l N ((d,.agg vs.toArray)::E) w0 S I H) (ht:tq.l.contains i=false:=by rfl):RL P L ef bk tq Q (.cons i l) N E w0 S I H:=
 RL.loadA hag hs ho hw hN hx (hr.h H) hr.len h ht
end
section
variable {P:Program} {L:List Oper} {ef bk:List Nat} {tq:Tq} {Q:Exit→Act→World→Prop} {N:Fm} {E:Env} {w0:World} {S:List Nat} {I H:List It} {i:Nat} {l:Sq}
variable {d:Nat} {x y z:Operand} {ty t yt:TypeId} {pos:String} {af:Array Edge} {g:Option (Nat×Bool)} {v:Value}
theorem RL.loadq{p:Addr}(hag:∀w,(isAgg t).run P w=.ok false w)(ho:b7 L i=some ⟨some d,.load t x,ty,pos,af,g⟩)(hw:aG L E ⟨some d,.load t x,ty,pos,af,g⟩=true)(hN:Nat.blt d N.n=true)
  (hx:E.ev x=some (.pointer (some p))) (h:RL P L ef bk tq Q l N ((d,v)::E) w0 S I H) (hr:Rd I H p v:=by first|assumption|(apply RdI.rd;assumption)|(apply Rd.get;(solve|(repeat (first|exact List.Mem.head _|apply List.Mem.tail)));assumption)|(apply dP;(solve|(repeat (first|exact List.Mem.head _|apply List.Mem.tail)));assumption)|(apply ic;(solve|(repeat (first|exact List.Mem.head _|apply List.Mem.tail)));assumption)|(apply aD;(solve|(repeat (first|exact List.Mem.head _|apply List.Mem.tail)));assumption)|(apply Rd.cel;(solve|(repeat (first|exact List.Mem.head _|apply List.Mem.tail)));exact rfl)|(apply Rd.celI;(solve|(repeat (first|exact List.Mem.head _|apply List.Mem.tail)));exact rfl)) (ht:tq.l.contains i=false:=by rfl):RL P L ef bk tq Q (.cons i l) N E w0 S I H:=RL.load hag ho hw hN hx hr h ht
theorem RL.loadTq{p:Addr}(hag:∀w,(isAgg t).run P w=.ok false w)(ho:b7 L i=some ⟨some d,.load t x,ty,pos,af,g⟩)(hw:aG L E ⟨some d,.load t x,ty,pos,af,g⟩=true)(hN:Nat.blt d N.n=true)
  (hx:E.ev x=some (.pointer (some p))) (h:RL P L ef bk tq Q l N ((d,v)::E) w0 S I H) (hr:Rd tq.T [] p v:=by first|assumption|(apply RdI.rd;assumption)|(apply Rd.get;(solve|(repeat (first|exact List.Mem.head _|apply List.Mem.tail)));assumption)|(apply dP;(solve|(repeat (first|exact List.Mem.head _|apply List.Mem.tail)));assumption)|(apply ic;(solve|(repeat (first|exact List.Mem.head _|apply List.Mem.tail)));assumption)|(apply aD;(solve|(repeat (first|exact List.Mem.head _|apply List.Mem.tail)));assumption)|(apply Rd.cel;(solve|(repeat (first|exact List.Mem.head _|apply List.Mem.tail)));exact rfl)|(apply Rd.celI;(solve|(repeat (first|exact List.Mem.head _|apply List.Mem.tail)));exact rfl)):RL P L ef bk tq Q (.cons i l) N E w0 S I H:=RL.loadT hag ho hw hN hx hr h
theorem RL.appendq{e:TypeId}{sz bytes:Nat}{ob:Option Nat}{cap nn mm c2:Nat}{xs news:List Value}{p2:Option Addr}{B:List It}{vx:Value}(T:ElemT P t e sz bytes)
  (ho:b7 L i=some ⟨some d,.call ⟨.builtin .append,#[x,y],#[t,t]⟩,ty,pos,af,g⟩) (hw:aG L E ⟨some d,.call ⟨.builtin .append,#[x,y],#[t,t]⟩,ty,pos,af,g⟩=true) (hN:Nat.blt d N.n=true) (hi:ef.contains i=true) (hb:bk.contains i=true)
  (hx:E.ev x=some vx) (hy:E.ev y=some (.slice p2 mm c2))
  (h:∀ob' cap',(nn+mm=0∨ob'.isSome=true)→RL P L ef bk tq Q l N ((d,aE ob' (nn+mm) cap')::E) w0 S I (PK.own ob' cap' e sz (nn+mm) (xs++news)::B))
  (hp:Pick H [PK.own ob cap e sz nn xs] B∧vx=aE ob nn cap:=by first|exact⟨(.take (ai _)),rfl⟩|exact⟨(.leave (.take (ai _))),rfl⟩|exact⟨(.leave (.leave (.take (ai _)))),rfl⟩|exact⟨(.leave (.leave (.leave (.take (ai _))))),rfl⟩|exact⟨(.leave (.leave (.leave (.leave (.take (ai _)))))),rfl⟩|exact⟨(.leave (.leave (.leave (.leave (.leave (.take (ai _))))))),rfl⟩|exact⟨(.leave (.leave (.leave (.leave (.leave (.leave (.take (ai _)))))))),rfl⟩|exact⟨(.leave (.leave (.leave (.leave (.leave (.leave (.leave (.take (ai _))))))))),rfl⟩|exact⟨(.leave (.leave (.leave (.leave (.leave (.leave (.leave (.leave (.take (ai _)))))))))),rfl⟩|exact⟨(.leave (.leave (.leave (.leave (.leave (.leave (.leave (.leave (.leave (.take (ai _))))))))))),rfl⟩) (hs:Src I H p2 mm sz news:=by first|(exact Src.cel (by(solve|(repeat (first|exact List.Mem.head _|apply List.Mem.tail)))) (by first|rfl|assumption|(simp only[List.length_map];assumption)|(simp;done)))|(exact Src.ownS (by(solve|(repeat (first|exact List.Mem.head _|apply List.Mem.tail)))))|(exact Src.own (by(solve|(repeat (first|exact List.Mem.head _|apply List.Mem.tail)))))|(exact Src.sls (by(solve|(repeat (first|exact List.Mem.head _|apply List.Mem.tail)))))|(exact Src.celI (by(solve|(repeat (first|exact List.Mem.head _|apply List.Mem.tail)))) (by first|rfl|assumption|(simp only[List.length_map];assumption)|(simp;done)))) (h1:∀u∈news,u.oneCell'=true:=by first|exact iV fh _|exact dI rfl|exact iV (fun _=>rfl) _|(intro u hu;simp at hu;simp[hu,Value.oneCell'])) (hm:nn+mm≤maxLen:=by first|omega|(simp only[maxLen];omega)) (hby:(nn+mm)*bytes≤140737488355328:=by first|omega|(simp only[maxLen];omega)):
  RL P L ef bk tq Q (.cons i l) N E w0 S I H:=cd T ho hw hN hi hb hx hy hp hs h1 hm hby h
theorem ab{f:FuncId}{args:List Value}{C:List It}{u:Value}{xs:Array Operand}{ats:Array TypeId}(hfn:Spc P f args.toArray C [] (Is u))
  (hrun:∀args w,(callFunc f args).run P w=.ok (.enter f args) w:=by intro _ _;kernel_rfl) (ho:b7 L i=some ⟨some d,.call ⟨.value (.func f),xs,ats⟩,ty,pos,af,g⟩:=by exact rfl) (hw:aG L E ⟨some d,.call ⟨.value (.func f),xs,ats⟩,ty,pos,af,g⟩=true:=by exact rfl)
  (hN:Nat.blt d N.n=true:=by exact rfl) (hx:evs E xs.toList=some args:=by exact rfl)
  (h:RL P L ef bk tq Q l N ((d,u)::E) w0 S I H) (hl:Lend I H C:=by repeat (first|exact Lend.nil|(refine Lend.inI ?_ ?_;(solve|(repeat (first|exact List.Mem.head _|apply List.Mem.tail))))|(refine Lend.inH ?_ ?_;(solve|(repeat (first|exact List.Mem.head _|apply List.Mem.tail)))))) (ht:tq.l.contains i=false:=by rfl):RL P L ef bk tq Q (.cons i l) N E w0 S I H:=ar hfn hrun ho hw hN hx hl h ht
theorem cr{f:FuncId}{args:List Value}{C:List It}{u:Value}{xs:Array Operand}{ats:Array TypeId}(hfn:Spc P f args.toArray C [] (Is u))
  (hrun:∀args w,(callFunc f args).run P w=.ok (.enter f args) w:=by intro _ _;kernel_rfl) (ho:b7 L i=some ⟨some d,.call ⟨.value (.func f),xs,ats⟩,ty,pos,af,g⟩:=by exact rfl) (hw:aG L E ⟨some d,.call ⟨.value (.func f),xs,ats⟩,ty,pos,af,g⟩=true:=by exact rfl)
  (hN:Nat.blt d N.n=true:=by exact rfl) (hx:evs E xs.toList=some args:=by exact rfl)
  (h:RL P L ef bk tq Q l N ((d,u)::E) w0 S I H) (hl:Lend tq.T [] C:=by repeat (first|exact Lend.nil|(refine Lend.inI ?_ ?_;(solve|(repeat (first|exact List.Mem.head _|apply List.Mem.tail))))|(refine Lend.inH ?_ ?_;(solve|(repeat (first|exact List.Mem.head _|apply List.Mem.tail)))))):RL P L ef bk tq Q (.cons i l) N E w0 S I H:=RL.callvT hfn hrun ho hw hN hx hl h
theorem ax{f:FuncId}{args:List Value}{A B C:List It}{R:Value→List It→List It→Prop}{xs:Array Operand}{ats:Array TypeId}(hfn:Spc P f args.toArray C A R)
  (hrun:∀args w,(callFunc f args).run P w=.ok (.enter f args) w:=by intro _ _;kernel_rfl) (ho:b7 L i=some ⟨some d,.call ⟨.value (.func f),xs,ats⟩,ty,pos,af,g⟩:=by exact rfl) (hw:aG L E ⟨some d,.call ⟨.value (.func f),xs,ats⟩,ty,pos,af,g⟩=true:=by exact rfl)
  (hN:Nat.blt d N.n=true:=by exact rfl) (hi:ef.contains i=true:=by exact rfl) (hx:evs E xs.toList=some args:=by exact rfl) (hb:A=[]∨bk.contains i=true)
  (h:∀v I' H',R v I' H'→RL P L ef bk tq Q l N ((d,v)::E) w0 S (I'++I) (H'++B)) (hp:Pick H A B:=by repeat (first|exact Pick.nil|apply Pick.take|apply Pick.leave)) (hl:Lend I B C:=by repeat (first|exact Lend.nil|(refine Lend.inI ?_ ?_;(solve|(repeat (first|exact List.Mem.head _|apply List.Mem.tail))))|(refine Lend.inH ?_ ?_;(solve|(repeat (first|exact List.Mem.head _|apply List.Mem.tail)))))):RL P L ef bk tq Q (.cons i l) N E w0 S I H:=RL.call hfn hrun ho hw hN hi hx hp hl hb h
end
def pv(E:Env):Op→Option Value
 | .move x=>E.ev x
 | .assign x=>E.ev x
 | .nilCheck x=>match E.ev x with
  | some (.pointer (some p))=>some (.pointer (some p))
  | _=>none
 | .extract x j=>match E.ev x with
  | some (.tuple vs)=>vs[j]?
  | _=>none
 | .unOp .not _ x=>match E.ev x with
  | some (.bool b)=>some (.bool !b)
  | _=>none
 | .pick x y z=>match E.ev x with
  | some (.bool true)=>E.ev y
  | some (.bool false)=>E.ev z
  | _=>none
 | .binOp op _ x y _=>match E.ev x,E.ev y with
  | some (.int k m),some (.int k' n)=>match decide (k=k') with
   | true=>ib op k m n
   | false=>none
  | _,_=>none
 | _=>none
def ps(L:List Oper)(E:Env)(N:Fm)(i:Nat):Option (Nat×Value):=
 match b7 L i with
 | none=>none
 | some o=>match o.dst with
  | none=>none
  | some d=>match Nat.blt d N.n with
   | false=>none
   | true=>match aG L E o with
    | true=>match pv E o.op with
     | some v=>some (d,v)
     | none=>none
    | false=>match unwants L E o with
     | true=>some (d,undef)
     | false=>none
section
variable {P:Program} {L:List Oper} {ef bk:List Nat} {tq:Tq} {Q:Exit→Act→World→Prop} {N:Fm} {E:Env} {w0:World} {S:List Nat} {I H:List It} {i:Nat} {l:Sq}
variable {d:Nat} {x y z:Operand} {ty t yt:TypeId} {pos:String} {af:Array Edge} {g:Option (Nat×Bool)} {v:Value} {k:IntKind} {m n:Int}
theorem exec_pv{o:Oper}{a:Act}(h:pv E o.op=some v)(ha:Ag N a E)(w:World):(execOp a.eval o).run P w=.ok (.value v) w:=by
 obtain⟨dst,op,ty,pos,af,g⟩:=o
 cases op with
 | move x=>simp only[execOp,ha.ev h];rfl
 | assign x=>simp only[execOp,ha.ev h];rfl
 | nilCheck x=>
  simp only[pv] at h;split at h
  ·next p hx=>cases h;simp[execOp,ha.ev hx]
  ·cases h
 | extract x j=>
  simp only[pv] at h;split at h
  ·next vs hx=>simp[execOp,ha.ev hx,Instr.extract,h]
  ·cases h
 | unOp u t x=>
  cases u with
  | not=>
   simp only[pv] at h;split at h
   ·next b hx=>cases h;simp[execOp,ha.ev hx,Op.unary]
   ·cases h
  | _=>cases h
 | pick x y z=>
  simp only[pv] at h;split at h
  ·next hx=>simp only[execOp,ha.ev hx,ha.ev h];rfl
  ·next hx=>simp only[execOp,ha.ev hx,ha.ev h];rfl
  ·cases h
 | binOp op t x y yt=>
  simp only[pv] at h;split at h
  ·next k m k' n hx hy=>
   split at h
   ·next hk=>
    have hk:k=k':=of_decide_eq_true hk;subst hk;exact exec_bin (ha.ev hx) (ha.ev hy) h w
   ·cases h
  ·cases h
 | _=>cases h
theorem RL.p{dv:Nat×Value}(h:ps L E N i=some dv)(r:RL P L ef bk tq Q l N (dv::E) w0 S I H):RL P L ef bk tq Q (.cons i l) N E w0 S I H:=by
 unfold ps at h;split at h
 ·cases h
 ·next o ho=>
  split at h
  ·cases h
  ·next d hd=>
   split at h
   ·cases h
   ·next hN=>
    split at h
    ·next hw=>
     split at h
     ·next v hv=>cases h;exact bN ho hw hd hN (fun a w ha=>exec_pv hv ha w) r
     ·cases h
    ·split at h
     ·next hw=>cases h;exact RL.skip ho hw hd hN r
     ·cases h
theorem ap{v':Value}(h:ps L E N i=some (d,v):=by exact rfl)(hc:v=v')(r:RL P L ef bk tq Q l N ((d,v')::E) w0 S I H):RL P L ef bk tq Q (.cons i l) N E w0 S I H:=by subst hc;exact RL.p h r
theorem CW.rg{rid:Nat}(h:RL P L [] [] ⟨[],[]⟩ Q (Sq.of (List.range L.length)) N E w0 S I H):CW P (.region rid L.toArray false) Q N E w0 S I H:=CW.region h
def pickK:List Nat→Env→Option Env
 | [],_=>some []
 | k::ks,E=>match E.get k with
  | none=>none
  | some v=>match pickK ks E with
   | none=>none
   | some E'=>some ((k,v)::E')
theorem pickK_sub:∀ {ks:List Nat} {E E':Env},pickK ks E=some E'→Sub E E'
 | [],_,_,h=>by cases h;exact .nil
 | k::ks,E,E',h=>by
  unfold pickK at h
  split at h
  ·cases h
  ·next v hv=>
   split at h
   ·cases h
   ·next E2 h2=>cases h;exact .cons hv (pickK_sub h2)
theorem CW.ok{E':Env}{c:Code}(ks:List Nat)(s:pickK ks E=some E')(h:CW P c Q N E' w0 S I H):CW P c Q N E w0 S I H:=CW.only (pickK_sub s) h
structure Sg(I H:List It)(p:Addr)(nn:Nat)(vs:List Value):Prop where
 r:Rds I H p vs
 l:vs.length=nn
theorem Sg.ofN{p:Addr}{nn:Nat}{vs:List Value}(h:RdsN I p nn vs):Sg I H p nn vs:=⟨h.h H,h.len⟩
theorem Sg.ofI{p:Addr}{nn:Nat}{vs:List Value}(h:RdsI I p vs)(hl:vs.length=nn):Sg I H p nn vs:=⟨h.h H,hl⟩
theorem Sg.ofW{b nn:Nat}{T:TypeId}{vs:List Value}(h:PK.cel b vs T∈H)(hl:vs.length=nn):Sg I H ⟨b,0,none⟩ nn vs:=⟨Rds.all h,hl⟩
theorem RL.loadSq{p:Addr}{nn:Nat}{vs:List Value}(hag:∀w,(isAgg t).run P w=.ok true w)(hs:∀w,(sizeOf t).run P w=.ok nn w)(ho:b7 L i=some ⟨some d,.load t x,ty,pos,af,g⟩)(hw:aG L E ⟨some d,.load t x,ty,pos,af,g⟩=true)(hN:Nat.blt d N.n=true)
  (hx:E.ev x=some (.pointer (some p))) (h:RL P L ef bk tq Q l N ((d,.agg vs.toArray)::E) w0 S I H)
  (hr:Sg I H p nn vs:=by first|exact Sg.ofN (by assumption)|exact Sg.mk (by assumption) (by first|rfl|assumption|(simp only[List.length_map];assumption)|(simp;done)|fail)|exact Sg.ofI (by assumption) (by first|rfl|assumption|(simp only[List.length_map];assumption)|(simp;done)|fail)|exact Sg.ofW (by(solve|(repeat (first|exact List.Mem.head _|apply List.Mem.tail)))) (by first|rfl|assumption|(simp only[List.length_map];assumption)|(simp;done)|fail))
  (ht:tq.l.contains i=false:=by rfl):RL P L ef bk tq Q (.cons i l) N E w0 S I H:=RL.loadA hag hs ho hw hN hx hr.r hr.l h ht
theorem RL.loadSTq{p:Addr}{nn:Nat}{vs:List Value}(hag:∀w,(isAgg t).run P w=.ok true w)(hs:∀w,(sizeOf t).run P w=.ok nn w)(ho:b7 L i=some ⟨some d,.load t x,ty,pos,af,g⟩)(hw:aG L E ⟨some d,.load t x,ty,pos,af,g⟩=true)(hN:Nat.blt d N.n=true)
  (hx:E.ev x=some (.pointer (some p))) (h:RL P L ef bk tq Q l N ((d,.agg vs.toArray)::E) w0 S I H)
  (hr:Sg tq.T [] p nn vs:=by first|exact Sg.ofN (by assumption)|exact Sg.mk (by assumption) (by first|rfl|assumption|(simp only[List.length_map];assumption)|(simp;done)|fail)|exact Sg.ofI (by assumption) (by first|rfl|assumption|(simp only[List.length_map];assumption)|(simp;done)|fail)):RL P L ef bk tq Q (.cons i l) N E w0 S I H:=RL.loadAT hag hs ho hw hN hx hr.r hr.l h
theorem RL.storeWq{b nn:Nat}{cs vs:List Value}{T:TypeId}{H':List It}(hs:∀w,(sizeOf t).run P w=.ok nn w)(ho:b7 L i=some ⟨none,.store t x y,ty,pos,af,g⟩)(hw:aG L E ⟨none,.store t x y,ty,pos,af,g⟩=true)
  (hi:ef.contains i=true) (hb:bk.contains i=true) (hx:E.ev x=some (.pointer (some ⟨b,0,none⟩))) (hy:E.ev y=some v) (hc:v.cells=vs.toArray) (h:RL P L ef bk tq Q l N E w0 S I H')
  (h1:dO vs=true:=by first|rfl|exact bC fh _|exact bC (fun _=>rfl) _) (hu:Upd H (PK.cel b cs T) (PK.cel b vs T) H':=by repeat (first|exact Upd.here|apply Upd.there))
  (hv:vs.length=nn:=by first|rfl|assumption|(simp only[List.length_map];assumption)|(simp;done)|fail) (hl:cs.length=nn:=by first|rfl|assumption|(simp only[List.length_map];assumption)|(simp;done)|fail):RL P L ef bk tq Q (.cons i l) N E w0 S I H:=
 an hs ho hw hi hb hx hy hc h1 hu hv hl h
theorem sK{E':Env}(ks:List Nat)(s:pickK ks E=some E'):Sub E E':=pickK_sub s
end
end Go.PK
namespace Go.Proofs.YthlchaldjekokaaGreat
theorem shOwn:ownKnob Tryz.prog.godebug=none:=by kernel_rfl
theorem sh2:laidOutB Tryz.prog=true:=by kernel_rfl
theorem sh3:mapsRowed Tryz.prog=true:=by kernel_rfl
theorem sh7:(Tryz.prog.stops==[])=true:=by kernel_rfl
theorem sh9:(Tryz.prog.stopKnobs==[])=true:=by kernel_rfl
theorem sh25:Tryz.prog.stopsHeard=true:=by kernel_rfl
theorem sh26:Tryz.prog.mayEnter=true:=by kernel_rfl
end Go.Proofs.YthlchaldjekokaaGreat
