import Derived.Test.YtkineolcmdecjaaGreatKA
import Derived.Test.YtkineolcmdecjaaGreatKB
import Derived.KernelRfl
namespace Go.Proofs.YtkineolcmdecjaaGreat
open Go.PK
open Tryz
def ints32 (l:List Int):List Value:=l.map (Value.int .i32)
def ints64 (l:List Int):List Value:=l.map (Value.int .i64)
structure Rdg.Ok (r:Rdg):Prop where
 kind:wfk .i64 r.kind
 g0:wfk .i32 r.g0
 g1:wfk .i32 r.g1
 g2:wfk .i32 r.g2
 a0:wfk .i32 r.a0
 a1:wfk .i32 r.a1
 a2:wfk .i32 r.a2
 height:wfk .i64 r.height
 heading:wfk .u32 r.heading
 speed:wfk .i32 r.speed
 steps:wfk .u32 r.steps
 interval:wfk .u32 r.interval
 p0:wfk .i64 r.p0
 p1:wfk .i64 r.p1
 p2:wfk .i64 r.p2
 tick:wfk .u64 r.tick
 epoch:wfk .u32 r.epoch
 bound:wfk .i64 r.bound
 flags:wfk .u32 r.flags
 fails:wfk .u16 r.fails
 counter:wfk .u64 r.counter
theorem wf_i64 {n:Int} (h:wfk .i64 n): -9223372036854775808≤n∧n≤9223372036854775807:=by
 have:=wfk_bounds h
 simpa [IntKind.min,IntKind.max,IntKind.signed,IntKind.bits] using this
theorem wf_i32 {n:Int} (h:wfk .i32 n): -9223372036854775808≤n∧n≤9223372036854775807:=by
 have:=wfk_bounds h
 simp [IntKind.min,IntKind.max,IntKind.signed,IntKind.bits] at this
 omega
theorem wf_u64 {n:Int} (h:wfk .u64 n):n=(n.toNat:Int)∧n.toNat < 18446744073709551616:=by
 have:=wfk_bounds h
 simp [IntKind.min,IntKind.max,IntKind.signed,IntKind.bits] at this
 omega
def keyL (k:Nat→B8):List B8:= [k 0,k 1,k 2,k 3,k 4,k 5,k 6,k 7,k 8,k 9,k 10,k 11,k 12,k 13,k 14,k 15,k 16,k 17,k 18,k 19,k 20,k 21,k 22,k 23,k 24,k 25,k 26,k 27,k 28,k 29,k 30,k 31]
def w64 (n:Int):Nat:=(IntKind.u64.wrap n).toNat
theorem w64_lt (n:Int):w64 n < 18446744073709551616:=wrap_u64_lt n
theorem w64_eq (n:Int):(w64 n:Int)=IntKind.u64.wrap n:=wrap_u64_nat n
theorem beN_byte (b:B8):beN 1 (w64 (b.toNat:Int))= [b]:=by
 have hb:=b.isLt
 have e:w64 (b.toNat:Int)=b.toNat:=by
  unfold w64;rw [u64_id _ zb];simp
 rw [e];simp [beN]
def bodyR (r:Rdg):List B8:=
 if r.kind=1 then [r.g0,r.g1,r.g2].flatMap be4++ [r.a0,r.a1,r.a2].flatMap be4
 else if r.kind=2 then be8' r.height
 else if r.kind=3 then beN 4 (w64 r.heading)
 else if r.kind=4 then be4 r.speed++beN 4 (w64 r.steps)
 else if r.kind=5 then beN 4 (w64 r.interval)++ [r.seq]++ [r.p0,r.p1,r.p2].flatMap be8'
 else if r.kind=6 then beN 4 (w64 r.interval)++keyL r.key
 else if r.kind=7 then beN 8 r.tick.toNat
 else if r.kind=8 then [r.mode]
 else if r.kind=10 then beN 4 (w64 r.epoch)
 else if r.kind=12 then [r.source]
 else if r.kind=13 then [r.mode]++ [r.p0,r.p1,r.p2].flatMap be8'++be8' r.bound++beN 4 (w64 r.flags)
 else if r.kind=14 then [r.source]++ [r.state]++beN 2 (w64 r.fails)++beN 8 r.counter.toNat++beN 4 (w64 r.epoch)
 else []
theorem pre3 {v0 v1 v2:Value} {cs:List Value} {o:Nat} (h0:cs[o]? =some v0) (h1:cs[o+1]? =some v1) (h2:cs[o+2]? =some v2):∀(j:Nat) (u:Value), [v0,v1,v2][j]? =some u→cs[o+j]? =some u:=by
 intro j u h
 match j,h with
 | 0,h=> rw [Nat.add_zero,h0];exact h
 | 1,h=> rw [h1];exact h
 | 2,h=> rw [h2];exact h
 | _+3,h=> simp at h
end Go.Proofs.YtkineolcmdecjaaGreat
namespace Go.Proofs.YtkineolcmdecjaaGreat
open Go.PK
open Tryz
def wrt (w:Nat) (ob:Option Nat) (n cap:Nat):It:=cel w [slO ob n cap] 217
def WrR (w:Nat) (m:List B8):Value→List It→List It→Prop:=fun _ I' H'=> I'= []∧∃ob cap,H'= [wrt w ob m.length cap,own ob cap 5 1 m.length (bytes m)]
theorem wnum_any (w:Nat) (ob:Option Nat) (cap n k X:Nat) (m:List B8) (hn:m.length=n) (hk:k≤8) (hb:n≤1000000000) (hX:X < 18446744073709551616):
  Spc prog 145 #[.pointer (some ⟨w,0,none⟩), .int .u64 (X:Int), .int .i64 (k:Int)] [] [wrt w ob n cap,own ob cap 5 1 n (bytes m)] (WrR w (m++beN k X)):=by
 subst hn
 unfold wrt
 refine Spc.en func145 rfl rfl (fun w0 hw0=> ?_)
 refine CW.s1 rfl (CW.bb ?_)
 refine CW.loop (γ:=Nat×Option Nat×Nat) (fun g=> g.1≤k) (fun g=> [(0, .pointer (some ⟨w,0,none⟩)),(1, .int .u64 (X:Int)),(2, .int .i64 (k:Int)),(7, .int .i64 (k:Int)),(8, .int .i64 (g.1:Int))]) (fun _=> [])
  (fun g=> [cel w [slO g.2.1 (m.length+g.1) g.2.2] 217,own g.2.1 g.2.2 5 1 (m.length+g.1) (bytes (m++(beN k X).take g.1))]) (fun g=> k - g.1) (0,ob,cap) zm
  sE (fun w h=> by simpa using h) ?_
 rintro ⟨i,ob',c'⟩ hi
 dsimp only at hi ⊢
 refine CW.sr (RL.pn rfl (CW.ss ?_))
 refine CW.cd rfl (fun hlt=> ?_) (fun hlt=> ?_)
 ·
  refine CW.sn (CW.ss (CW.bb (CW.s1 rfl (CW.rD (Sq.of (rg 0 17)) [13,14,17] [14,17] ([0,1,2,3]++rg 5 12++[15,16]) mixed zi ?_))))
  refine RL.q rfl (RL.p rfl (RL.fa fa_217_0 rfl (RL.lq isAgg74 rfl ?_)))
  refine RL.q rfl (RL.bx rfl (wrapV_i64 zb zb) ?_)
  refine RL.p rfl (RL.bx rfl (wrapV_i64 zb zb) ?_)
  refine RL.bx rfl (wrapV_i64 zb zb) ?_
  have hlt:i < k:=by simp at hlt;omega
  refine RL.shr (8*(k - 1 - i)) rfl zb (by show 8*(k - 1 - i)≤64;omega) ?_
  refine RL.lowest runUnderlying32 runUnderlying5 rfl (RL.buildSlice [_] runUnderlying74 sizeOf5 zeroValue5 rfl rfl zc zc rfl rfl ?_)
  intro b1
  refine RL.appendq el_74 rfl ?_
  intro ob1 cap1 ho1
  refine RL.p rfl (RL.fa fa_217_0 rfl (RL.store (vs:= [_]) sizeOf74 rfl rfl uE ?_))
  refine RL.ee (NQ.bb (NQ.ss (CW.ok [0,1,2,7,8] rfl (CW.rg (RL.bx rfl (wrapV_i64 zb zb) ?_)))))
  refine RL.p rfl (RL.ee ?_)
  refine NQ.rr (g:=(i,ob',c')) (i+1,ob1,cap1) hlt (by show k - (i+1) < k - i;omega) sE (fun z h=> ?_)
  rw [own_is (ob:=ob1) (n':=m.length+(i+1)) (xs':=bytes (m++(beN k X).take (i+1))) zb (by rw [beN_take _ _ _ hlt,←shrA];simp)] at h
  exact h.rea (fun _ h=> h) rE
 ·
  refine CW.xx (XQ.ss (XQ.ss (XQ.hh ?_)))
  have hik:i=k:=by simp at hlt;omega
  subst hik
  have e:m.length+i=(m++beN i X).length:=by rw [List.length_append,beN_length]
  rw [List.take_of_length_le (by rw [beN_length];exact Nat.le_refl _),e]
  exact NQ.post (res0 rfl) (.keep (.keep .nil)) ⟨rfl,ob',c',rfl⟩
theorem wshort_any (w:Nat) (ob:Option Nat) (p:Option Addr) (cap n c k:Nat) (m:List B8) (l:List Int) (hn:m.length=n) (hk:l.length=k) (hk2:k≤8) (hb:n≤1000000000) (hl:∀x∈l, -9223372036854775808≤x∧x≤9223372036854775807):
  Spc prog 143 #[.pointer (some ⟨w,0,none⟩), .slice p k c] [sls p 1 k (ints32 l)] [wrt w ob n cap,own ob cap 5 1 n (bytes m)] (WrR w (m++l.flatMap be4)):=by
 subst hn
 subst hk
 unfold wrt
 refine Spc.en func143 rfl rfl (fun w0 hw0=> ?_)
 refine CW.sr (RL.p rfl (RL.lenS runUnderlying277 rfl (RL.pn rfl (CW.bb ?_))))
 refine CW.loop (γ:=Nat×Option Nat×Nat) (fun g=> g.1≤l.length) (fun g=> [(0, .pointer (some ⟨w,0,none⟩)),(7, .slice p l.length c),(8, .int .i64 (l.length:Int)),(9, .int .i64 (g.1:Int))]) (fun _=> [sls p 1 l.length (ints32 l)])
  (fun g=> [cel w [slO g.2.1 (m++(l.take g.1).flatMap be4).length g.2.2] 217,own g.2.1 g.2.2 5 1 (m++(l.take g.1).flatMap be4).length (bytes (m++(l.take g.1).flatMap be4))]) (fun g=> l.length - g.1) (0,ob,cap) zm
  sE (fun w h=> by simpa using h) ?_
 rintro ⟨i,ob',c'⟩ hi
 dsimp only at hi ⊢
 refine CW.ff (p:=p=none→l.length=0) (fun w hC e=> sls_nil (hC.s.i _ (List.Mem.head _)) e) (fun hpp=> ?_)
 refine CW.sr (RL.pn rfl (CW.ss ?_))
 refine CW.cd rfl (fun hlt=> ?_) (fun hlt=> ?_)
 ·
  refine CW.sn (CW.ss (CW.bb (CW.sr ?_)))
  have hlt:i < l.length:=by simp at hlt;omega
  have hxb:=hl _ (List.getElem_mem hlt)
  have hv:(ints32 l)[i*1]? =some (.int .i32 l[i]):=by simp [ints32,hlt]
  have hs:(l.take (i+1)).flatMap be4=(l.take i).flatMap be4++be4 l[i]:=by rw [List.take_succ_eq_append_getElem hlt,List.flatMap_append];simp
  generalize l[i]=x at hv hs hxb
  have hlm:(m++(l.take i).flatMap be4).length≤1000000100:=by rw [List.length_append,length_flat (n:=4) (fun a _=> be4_length a),List.length_take];omega
  have hl2:(m++(l.take i).flatMap be4).length+4=(m++(l.take (i+1)).flatMap be4).length:=by rw [hs,←List.append_assoc];generalize m++(l.take i).flatMap be4=y;rw [List.length_append,be4_length]
  obtain ⟨a,rfl⟩:∃a,p=some a:=by
   cases p with
   | none=> exact absurd (hpp rfl) zb
   | some a=> exact ⟨a,rfl⟩
  refine RL.idx (j:=i) runUnderlying277 sizeOf65 rfl rfl hlt (RL.lq isAgg65 rfl ?_)
  refine RL.pn rfl (CW.sg [2,3] [3] (RL.p rfl (RL.vq (sput_any x) call169 rfl ?_)))
  refine RL.al zeroValue318 rfl ?_
  intro b1
  refine RL.sq sizeOf318 rfl ?_
  refine RL.ns (CW.ok [0,6,7,8,9] rfl (CW.rD (Sq.of (rg 0 9)) [6,9] [6,9] [0,1,2,3,5,7,8] mixed zi ?_))
  refine RL.q rfl (RL.p rfl (RL.fa fa_217_0 rfl (RL.lq isAgg74 rfl ?_)))
  refine RL.sliceAll runUnderlying318 sizeOf5 zc rfl ?_
  refine RL.appendq el_74 rfl ?_
  intro ob1 cap1 ho1
  refine RL.p rfl (RL.fa fa_217_0 rfl (RL.store (vs:= [_]) sizeOf74 rfl rfl uE ?_))
  refine RL.ee (NQ.bb (NQ.ss (CW.ok [0,7,8,9] rfl (CW.rg (RL.bx rfl (wrapV_i64 zb zb) ?_)))))
  refine RL.p rfl (RL.ee ?_)
  rw [own_is (ob:=ob1) (n':=(m++(l.take (i+1)).flatMap be4).length) (xs':=bytes (m++(l.take (i+1)).flatMap be4)) hl2 (by rw [hs,←List.append_assoc];exact List.map_append.symm),hl2]
  exact NQ.rr (g:=(i,ob',c')) (i+1,ob1,cap1) hlt (by show l.length - (i+1) < l.length - i;omega) sE (fun z h=> h.rea (fun _ h=> h) rE)
 ·
  refine CW.xx (XQ.ss (XQ.ss (XQ.hh ?_)))
  have hik:i=l.length:=by simp at hlt;omega
  subst hik
  rw [List.take_length]
  exact NQ.post (res0 rfl) (.keep (.keep .nil)) ⟨rfl,ob',c',rfl⟩
theorem wfix_any (w:Nat) (ob:Option Nat) (p:Option Addr) (cap n c k:Nat) (m:List B8) (l:List Int) (hn:m.length=n) (hk:l.length=k) (hk2:k≤8) (hb:n≤1000000000) (hl:∀x∈l, -9223372036854775808≤x∧x≤9223372036854775807):
  Spc prog 144 #[.pointer (some ⟨w,0,none⟩), .slice p k c] [sls p 1 k (ints64 l)] [wrt w ob n cap,own ob cap 5 1 n (bytes m)] (WrR w (m++l.flatMap be8')):=by
 subst hn
 subst hk
 unfold wrt
 refine Spc.en func144 rfl rfl (fun w0 hw0=> ?_)
 refine CW.sr (RL.p rfl (RL.lenS runUnderlying280 rfl (RL.pn rfl (CW.bb ?_))))
 refine CW.loop (γ:=Nat×Option Nat×Nat) (fun g=> g.1≤l.length) (fun g=> [(0, .pointer (some ⟨w,0,none⟩)),(7, .slice p l.length c),(8, .int .i64 (l.length:Int)),(9, .int .i64 (g.1:Int))]) (fun _=> [sls p 1 l.length (ints64 l)])
  (fun g=> [cel w [slO g.2.1 (m++(l.take g.1).flatMap be8').length g.2.2] 217,own g.2.1 g.2.2 5 1 (m++(l.take g.1).flatMap be8').length (bytes (m++(l.take g.1).flatMap be8'))]) (fun g=> l.length - g.1) (0,ob,cap) zm
  sE (fun w h=> by simpa using h) ?_
 rintro ⟨i,ob',c'⟩ hi
 dsimp only at hi ⊢
 refine CW.ff (p:=p=none→l.length=0) (fun w hC e=> sls_nil (hC.s.i _ (List.Mem.head _)) e) (fun hpp=> ?_)
 refine CW.sr (RL.pn rfl (CW.ss ?_))
 refine CW.cd rfl (fun hlt=> ?_) (fun hlt=> ?_)
 ·
  refine CW.sn (CW.ss (CW.bb (CW.sr ?_)))
  have hlt:i < l.length:=by simp at hlt;omega
  have hxb:=hl _ (List.getElem_mem hlt)
  have hv:(ints64 l)[i*1]? =some (.int .i64 l[i]):=by simp [ints64,hlt]
  have hs:(l.take (i+1)).flatMap be8'=(l.take i).flatMap be8'++be8' l[i]:=by rw [List.take_succ_eq_append_getElem hlt,List.flatMap_append];simp
  generalize l[i]=x at hv hs hxb
  have hlm:(m++(l.take i).flatMap be8').length≤1000000100:=by rw [List.length_append,length_flat (n:=8) (fun a _=> be8'_length a),List.length_take];omega
  have hl2:(m++(l.take i).flatMap be8').length+8=(m++(l.take (i+1)).flatMap be8').length:=by rw [hs,←List.append_assoc];generalize m++(l.take i).flatMap be8'=y;rw [List.length_append,be8'_length]
  obtain ⟨a,rfl⟩:∃a,p=some a:=by
   cases p with
   | none=> exact absurd (hpp rfl) zb
   | some a=> exact ⟨a,rfl⟩
  refine RL.idx (j:=i) runUnderlying280 sizeOf25 rfl rfl hlt (RL.lq isAgg25 rfl ?_)
  refine RL.pn rfl (CW.sg [2,3] [3] (RL.p rfl (RL.vq (sputfix_any x hxb) call170 rfl ?_)))
  refine RL.al zeroValue320 rfl ?_
  intro b1
  refine RL.sq sizeOf320 rfl ?_
  refine RL.ns (CW.ok [0,6,7,8,9] rfl (CW.rD (Sq.of (rg 0 9)) [6,9] [6,9] [0,1,2,3,5,7,8] mixed zi ?_))
  refine RL.q rfl (RL.p rfl (RL.fa fa_217_0 rfl (RL.lq isAgg74 rfl ?_)))
  refine RL.sliceAll runUnderlying320 sizeOf5 zc rfl ?_
  refine RL.appendq el_74 rfl ?_
  intro ob1 cap1 ho1
  refine RL.p rfl (RL.fa fa_217_0 rfl (RL.store (vs:= [_]) sizeOf74 rfl rfl uE ?_))
  refine RL.ee (NQ.bb (NQ.ss (CW.ok [0,7,8,9] rfl (CW.rg (RL.bx rfl (wrapV_i64 zb zb) ?_)))))
  refine RL.p rfl (RL.ee ?_)
  rw [own_is (ob:=ob1) (n':=(m++(l.take (i+1)).flatMap be8').length) (xs':=bytes (m++(l.take (i+1)).flatMap be8')) hl2 (by rw [hs,←List.append_assoc];exact List.map_append.symm),hl2]
  exact NQ.rr (g:=(i,ob',c')) (i+1,ob1,cap1) hlt (by show l.length - (i+1) < l.length - i;omega) sE (fun z h=> h.rea (fun _ h=> h) rE)
 ·
  refine CW.xx (XQ.ss (XQ.ss (XQ.hh ?_)))
  have hik:i=l.length:=by simp at hlt;omega
  subst hik
  rw [List.take_length]
  exact NQ.post (res0 rfl) (.keep (.keep .nil)) ⟨rfl,ob',c',rfl⟩
end Go.Proofs.YtkineolcmdecjaaGreat
namespace Go.Proofs.YtkineolcmdecjaaGreat
open Go.PK
open Tryz
set_option linter.unusedSimpArgs false
theorem wput_1 (w:Nat) (r:Rdg) (hk:r.kind=1) (hr:r.Ok):Spc prog 107 #[.pointer (some ⟨w,0,none⟩), .agg r.cells.toArray] [] [wrt w none 0 0,own none 0 5 1 0 []] (WrR w (bodyR r)):=by
 refine Spc.en func107 rfl rfl (fun w0 hw0=> ?_)
 refine CW.sg [0] [] (RL.box rfl ?_)
 intro b1
 refine RL.ns (CW.sr (RL.fa fa_69_0 rfl (RL.lq isAgg3 rfl ?_)))
 refine RL.ns (CW.bs (CW.bs (CW.bs (CW.bs (CW.bs (CW.bs ?_))))))
 refine CW.bs (CW.bs (CW.bs (CW.bs (CW.bs (CW.bs (CW.bs ?_))))))
 refine CW.ss (CW.s1 rfl (CW.cT rfl ((by rw [hk];rfl)) ?_))
 refine CW.xx (XQ.ss (XQ.ss (XQ.hh (NQ.ss (CW.ss (CW.sg [3] [3] (RL.p rfl (RL.fa fa_69_1 rfl (RL.sliceAll runUnderlying66 sizeOf65 zc rfl ?_)))))))))
 refine RL.cc (wshort_any w none (some ⟨b1,0+1,none⟩) 0 ([]:List B8).length 3 3 ([]) [r.g0,r.g1,r.g2] rfl rfl zc zn (by simp only [List.mem_cons,List.not_mem_nil,or_false];rintro x (rfl | rfl | rfl) <;> first | exact wf_i32 hr.g0 | exact wf_i32 hr.g1 | exact wf_i32 hr.g2)) call143 rfl pE (Lend.cel (off:=0+1) (cs:=r.cells) mQ rfl (pre3 rfl rfl rfl) .nil) (.inr rfl) ?_
 rintro _ _ _ ⟨rfl,ob1',cp1,rfl⟩
 refine RL.ns (CW.ok [0,3] rfl (CW.rn (ef:= [3]) (bk:= [3]) (RL.p rfl (RL.fa fa_69_2 rfl (RL.sliceAll runUnderlying66 sizeOf65 zc rfl ?_)))))
 refine RL.cc (wshort_any w ob1' (some ⟨b1,0+4,none⟩) cp1 ([]++ [r.g0,r.g1,r.g2].flatMap be4:List B8).length 3 3 ([]++ [r.g0,r.g1,r.g2].flatMap be4) [r.a0,r.a1,r.a2] rfl rfl zc zn (by simp only [List.mem_cons,List.not_mem_nil,or_false];rintro x (rfl | rfl | rfl) <;> first | exact wf_i32 hr.a0 | exact wf_i32 hr.a1 | exact wf_i32 hr.a2)) call143 rfl pE (Lend.cel (off:=0+4) (cs:=r.cells) mQ rfl (pre3 rfl rfl rfl) .nil) (.inr rfl) ?_
 rintro _ _ _ ⟨rfl,ob2',cp2,rfl⟩
 refine RL.ns (CW.xx (XQ.mm rfl (XQ.ss (XQ.mm rfl (XQ.ss (XQ.mm rfl (XQ.ss (XQ.mm rfl (XQ.ss (XQ.mm rfl (XQ.ss (XQ.mm rfl ?_))))))))))))
 refine XQ.ss (XQ.mm rfl (XQ.ss (XQ.mm rfl (XQ.ss (XQ.mm rfl (XQ.ss (XQ.mm rfl (XQ.ss (XQ.mm rfl (XQ.ss (XQ.hh ?_)))))))))))
 have e:([]++ [r.g0,r.g1,r.g2].flatMap be4++ [r.a0,r.a1,r.a2].flatMap be4:List B8)=bodyR r:=by unfold bodyR;simp [hk,beN_byte]
 rw [←e]
 exact NQ.post (res0 rfl) (.keep (.keep (Split.nn _))) ⟨rfl,_,_,rfl⟩
theorem wput_2 (w:Nat) (r:Rdg) (hk:r.kind=2) (hr:r.Ok):Spc prog 107 #[.pointer (some ⟨w,0,none⟩), .agg r.cells.toArray] [] [wrt w none 0 0,own none 0 5 1 0 []] (WrR w (bodyR r)):=by
 refine Spc.en func107 rfl rfl (fun w0 hw0=> ?_)
 refine CW.sg [0] [] (RL.box rfl ?_)
 intro b1
 refine RL.ns (CW.sr (RL.fa fa_69_0 rfl (RL.lq isAgg3 rfl ?_)))
 refine RL.ns (CW.bs (CW.bs (CW.bs (CW.bs (CW.bs (CW.bs ?_))))))
 refine CW.bs (CW.bs (CW.bs (CW.bs (CW.bs (CW.bs (CW.bs ?_))))))
 refine CW.ss (CW.s1 rfl (CW.cF rfl ((by rw [hk];rfl)) ?_))
 refine CW.sn (CW.ss (CW.s1 rfl (CW.cT rfl ((by rw [hk];rfl)) ?_)))
 refine CW.xx (XQ.ss (XQ.ss (XQ.mm rfl (XQ.ss (XQ.hh (NQ.ss (CW.ok [0,3] rfl (CW.sg [3,4] [4] (RL.p rfl (RL.fa fa_69_3 rfl (RL.lq isAgg25 rfl ?_)))))))))))
 refine RL.buildSlice [_] runUnderlying280 sizeOf25 zeroValue25 rfl rfl zc zc rfl rfl ?_
 intro b2
 refine RL.cc (wfix_any w none (some ⟨b2,0,none⟩) 0 ([]:List B8).length 1 1 ([]) [r.height] rfl rfl zc zn (by simp only [List.mem_cons,List.not_mem_nil,or_false];rintro x (rfl) <;> first | exact wf_i64 hr.height)) call144 rfl pE (Lend.all mQ rfl .nil) (.inr rfl) ?_
 rintro _ _ _ ⟨rfl,ob1',cp1,rfl⟩
 refine RL.ns (CW.xx (XQ.mm rfl (XQ.ss (XQ.mm rfl (XQ.ss (XQ.mm rfl (XQ.ss (XQ.mm rfl (XQ.ss (XQ.mm rfl (XQ.ss (XQ.mm rfl ?_))))))))))))
 refine XQ.ss (XQ.mm rfl (XQ.ss (XQ.mm rfl (XQ.ss (XQ.mm rfl (XQ.ss (XQ.mm rfl (XQ.ss (XQ.hh ?_)))))))))
 have e:([]++ [r.height].flatMap be8':List B8)=bodyR r:=by unfold bodyR;simp [hk,beN_byte]
 rw [←e]
 exact NQ.post (res0 rfl) (.keep (.keep (Split.nn _))) ⟨rfl,_,_,rfl⟩
theorem wput_3 (w:Nat) (r:Rdg) (hk:r.kind=3) (hr:r.Ok):Spc prog 107 #[.pointer (some ⟨w,0,none⟩), .agg r.cells.toArray] [] [wrt w none 0 0,own none 0 5 1 0 []] (WrR w (bodyR r)):=by
 refine Spc.en func107 rfl rfl (fun w0 hw0=> ?_)
 refine CW.sg [0] [] (RL.box rfl ?_)
 intro b1
 refine RL.ns (CW.sr (RL.fa fa_69_0 rfl (RL.lq isAgg3 rfl ?_)))
 refine RL.ns (CW.bs (CW.bs (CW.bs (CW.bs (CW.bs (CW.bs ?_))))))
 refine CW.bs (CW.bs (CW.bs (CW.bs (CW.bs (CW.bs (CW.bs ?_))))))
 refine CW.ss (CW.s1 rfl (CW.cF rfl ((by rw [hk];rfl)) ?_))
 refine CW.sn (CW.ss (CW.s1 rfl (CW.cF rfl ((by rw [hk];rfl)) ?_)))
 refine CW.sn (CW.ok [0,3,5] rfl (CW.ss (CW.s1 rfl (CW.cT rfl ((by rw [hk];rfl)) ?_))))
 refine CW.xx (XQ.ss (XQ.ss (XQ.mm rfl (XQ.ss (XQ.mm rfl (XQ.ss (XQ.hh (NQ.ss (CW.sg [4] [4] (RL.p rfl (RL.fa fa_69_4 rfl (RL.lq isAgg61 rfl ?_))))))))))))
 refine RL.conv runUnderlying61 runUnderlying32 rfl ?_
 rw [←w64_eq]
 refine RL.cq (wnum_any w none 0 ([]:List B8).length 4 (w64 r.heading) ([]) rfl zc zn (w64_lt _)) call145 rfl (.inr rfl) ?_
 rintro _ _ _ ⟨rfl,ob1',cp1,rfl⟩
 refine RL.ns (CW.ok [0,3] rfl (CW.xx (XQ.mm rfl (XQ.ss (XQ.mm rfl (XQ.ss (XQ.mm rfl (XQ.ss (XQ.mm rfl (XQ.ss (XQ.mm rfl (XQ.ss ?_))))))))))))
 refine XQ.mm rfl (XQ.ss (XQ.mm rfl (XQ.ss (XQ.mm rfl (XQ.ss (XQ.mm rfl (XQ.ss (XQ.hh ?_))))))))
 have e:([]++beN 4 (w64 r.heading):List B8)=bodyR r:=by unfold bodyR;simp [hk,beN_byte]
 rw [←e]
 exact NQ.post (res0 rfl) (.keep (.keep (Split.nn _))) ⟨rfl,_,_,rfl⟩
theorem wput_4 (w:Nat) (r:Rdg) (hk:r.kind=4) (hr:r.Ok):Spc prog 107 #[.pointer (some ⟨w,0,none⟩), .agg r.cells.toArray] [] [wrt w none 0 0,own none 0 5 1 0 []] (WrR w (bodyR r)):=by
 refine Spc.en func107 rfl rfl (fun w0 hw0=> ?_)
 refine CW.sg [0] [] (RL.box rfl ?_)
 intro b1
 refine RL.ns (CW.sr (RL.fa fa_69_0 rfl (RL.lq isAgg3 rfl ?_)))
 refine RL.ns (CW.bs (CW.bs (CW.bs (CW.bs (CW.bs (CW.bs ?_))))))
 refine CW.bs (CW.bs (CW.bs (CW.bs (CW.bs (CW.bs (CW.bs ?_))))))
 refine CW.ss (CW.s1 rfl (CW.cF rfl ((by rw [hk];rfl)) ?_))
 refine CW.sn (CW.ss (CW.s1 rfl (CW.cF rfl ((by rw [hk];rfl)) ?_)))
 refine CW.sn (CW.ok [0,3,5] rfl (CW.ss (CW.s1 rfl (CW.cF rfl ((by rw [hk];rfl)) ?_))))
 refine CW.sn (CW.ss (CW.s1 rfl (CW.cT rfl ((by rw [hk];rfl)) ?_)))
 refine CW.xx (XQ.ss (XQ.ss (XQ.mm rfl (XQ.ss (XQ.mm rfl (XQ.ss (XQ.mm rfl (XQ.ss (XQ.hh (NQ.ss (CW.ss (CW.sg [3,4] [4] ?_))))))))))))
 refine RL.p rfl (RL.fa fa_69_5 rfl (RL.lq isAgg65 rfl ?_))
 refine RL.buildSlice [_] runUnderlying277 sizeOf65 zeroValue65 rfl rfl zc zc rfl rfl ?_
 intro b2
 refine RL.cc (wshort_any w none (some ⟨b2,0,none⟩) 0 ([]:List B8).length 1 1 ([]) [r.speed] rfl rfl zc zn (by simp only [List.mem_cons,List.not_mem_nil,or_false];rintro x (rfl) <;> first | exact wf_i32 hr.speed)) call143 rfl pE (Lend.all mQ rfl .nil) (.inr rfl) ?_
 rintro _ _ _ ⟨rfl,ob1',cp1,rfl⟩
 refine RL.ns (CW.ok [0,3] rfl (CW.rn (ef:= [4]) (bk:= [4]) (RL.p rfl (RL.fa fa_69_6 rfl (RL.lq isAgg61 rfl ?_)))))
 refine RL.conv runUnderlying61 runUnderlying32 rfl ?_
 rw [←w64_eq]
 refine RL.cq (wnum_any w ob1' cp1 ([]++ [r.speed].flatMap be4:List B8).length 4 (w64 r.steps) ([]++ [r.speed].flatMap be4) rfl zc zn (w64_lt _)) call145 rfl (.inr rfl) ?_
 rintro _ _ _ ⟨rfl,ob2',cp2,rfl⟩
 refine RL.ns (CW.xx (XQ.mm rfl (XQ.ss (XQ.mm rfl (XQ.ss (XQ.mm rfl (XQ.ss (XQ.mm rfl (XQ.ss (XQ.mm rfl (XQ.ss (XQ.mm rfl ?_))))))))))))
 refine XQ.ss (XQ.mm rfl (XQ.ss (XQ.mm rfl (XQ.ss (XQ.hh ?_)))))
 have e:([]++ [r.speed].flatMap be4++beN 4 (w64 r.steps):List B8)=bodyR r:=by unfold bodyR;simp [hk,beN_byte]
 rw [←e]
 exact NQ.post (res0 rfl) (.keep (.keep (Split.nn _))) ⟨rfl,_,_,rfl⟩
theorem wput_5 (w:Nat) (r:Rdg) (hk:r.kind=5) (hr:r.Ok):Spc prog 107 #[.pointer (some ⟨w,0,none⟩), .agg r.cells.toArray] [] [wrt w none 0 0,own none 0 5 1 0 []] (WrR w (bodyR r)):=by
 refine Spc.en func107 rfl rfl (fun w0 hw0=> ?_)
 refine CW.sg [0] [] (RL.box rfl ?_)
 intro b1
 refine RL.ns (CW.sr (RL.fa fa_69_0 rfl (RL.lq isAgg3 rfl ?_)))
 refine RL.ns (CW.bs (CW.bs (CW.bs (CW.bs (CW.bs (CW.bs ?_))))))
 refine CW.bs (CW.bs (CW.bs (CW.bs (CW.bs (CW.bs (CW.bs ?_))))))
 refine CW.ss (CW.s1 rfl (CW.cF rfl ((by rw [hk];rfl)) ?_))
 refine CW.sn (CW.ss (CW.s1 rfl (CW.cF rfl ((by rw [hk];rfl)) ?_)))
 refine CW.sn (CW.ok [0,3,5] rfl (CW.ss (CW.s1 rfl (CW.cF rfl ((by rw [hk];rfl)) ?_))))
 refine CW.sn (CW.ss (CW.s1 rfl (CW.cF rfl ((by rw [hk];rfl)) ?_)))
 refine CW.sn (CW.ss (CW.s1 rfl (CW.cT rfl ((by rw [hk];rfl)) ?_)))
 refine CW.xx (XQ.ss (XQ.ss (XQ.mm rfl (XQ.ss (XQ.mm rfl (XQ.ss (XQ.mm rfl (XQ.ss (XQ.mm rfl (XQ.ss (XQ.hh (NQ.ss (CW.ok [0,3] rfl ?_)))))))))))))
 refine CW.ss (CW.sg [4] [4] (RL.p rfl (RL.fa fa_69_7 rfl (RL.lq isAgg61 rfl ?_))))
 refine RL.conv runUnderlying61 runUnderlying32 rfl ?_
 rw [←w64_eq]
 refine RL.cq (wnum_any w none 0 ([]:List B8).length 4 (w64 r.interval) ([]) rfl zc zn (w64_lt _)) call145 rfl (.inr rfl) ?_
 rintro _ _ _ ⟨rfl,ob1',cp1,rfl⟩
 refine RL.ns (CW.sg [4] [4] (RL.p rfl (RL.fa fa_69_8 rfl (RL.lq isAgg5 rfl ?_))))
 refine RL.conv runUnderlying5 runUnderlying32 rfl ?_
 rw [←w64_eq]
 refine RL.cq (wnum_any w ob1' cp1 ([]++beN 4 (w64 r.interval):List B8).length 1 (w64 (r.seq.toNat:Int)) ([]++beN 4 (w64 r.interval)) rfl zc zn (w64_lt _)) call145 rfl (.inr rfl) ?_
 rintro _ _ _ ⟨rfl,ob2',cp2,rfl⟩
 refine RL.ns (CW.ok [0,3] rfl (CW.rn (ef:= [3]) (bk:= [3]) (RL.p rfl (RL.fa fa_69_9 rfl (RL.sliceAll runUnderlying27 sizeOf25 zc rfl ?_)))))
 refine RL.cc (wfix_any w ob2' (some ⟨b1,0+13,none⟩) cp2 ([]++beN 4 (w64 r.interval)++beN 1 (w64 (r.seq.toNat:Int)):List B8).length 3 3 ([]++beN 4 (w64 r.interval)++beN 1 (w64 (r.seq.toNat:Int))) [r.p0,r.p1,r.p2] rfl rfl zc zn (by simp only [List.mem_cons,List.not_mem_nil,or_false];rintro x (rfl | rfl | rfl) <;> first | exact wf_i64 hr.p0 | exact wf_i64 hr.p1 | exact wf_i64 hr.p2)) call144 rfl pE (Lend.cel (off:=0+13) (cs:=r.cells) mQ rfl (pre3 rfl rfl rfl) .nil) (.inr rfl) ?_
 rintro _ _ _ ⟨rfl,ob3',cp3,rfl⟩
 refine RL.ns (CW.xx (XQ.mm rfl (XQ.ss (XQ.mm rfl (XQ.ss (XQ.mm rfl (XQ.ss (XQ.mm rfl (XQ.ss (XQ.mm rfl (XQ.ss (XQ.mm rfl ?_))))))))))))
 refine XQ.ss (XQ.mm rfl (XQ.ss (XQ.hh ?_)))
 have e:([]++beN 4 (w64 r.interval)++beN 1 (w64 (r.seq.toNat:Int))++ [r.p0,r.p1,r.p2].flatMap be8':List B8)=bodyR r:=by unfold bodyR;simp [hk,beN_byte]
 rw [←e]
 exact NQ.post (res0 rfl) (.keep (.keep (Split.nn _))) ⟨rfl,_,_,rfl⟩
theorem wput_6 (w:Nat) (r:Rdg) (hk:r.kind=6) (hr:r.Ok):Spc prog 107 #[.pointer (some ⟨w,0,none⟩), .agg r.cells.toArray] [] [wrt w none 0 0,own none 0 5 1 0 []] (WrR w (bodyR r)):=by
 refine Spc.en func107 rfl rfl (fun w0 hw0=> ?_)
 refine CW.sg [0] [] (RL.box rfl ?_)
 intro b1
 refine RL.ns (CW.sr (RL.fa fa_69_0 rfl (RL.lq isAgg3 rfl ?_)))
 refine RL.ns (CW.bs (CW.bs (CW.bs (CW.bs (CW.bs (CW.bs ?_))))))
 refine CW.bs (CW.bs (CW.bs (CW.bs (CW.bs (CW.bs (CW.bs ?_))))))
 refine CW.ss (CW.s1 rfl (CW.cF rfl ((by rw [hk];rfl)) ?_))
 refine CW.sn (CW.ss (CW.s1 rfl (CW.cF rfl ((by rw [hk];rfl)) ?_)))
 refine CW.sn (CW.ok [0,3,5] rfl (CW.ss (CW.s1 rfl (CW.cF rfl ((by rw [hk];rfl)) ?_))))
 refine CW.sn (CW.ss (CW.s1 rfl (CW.cF rfl ((by rw [hk];rfl)) ?_)))
 refine CW.sn (CW.ss (CW.s1 rfl (CW.cF rfl ((by rw [hk];rfl)) ?_)))
 refine CW.sn (CW.ok [0,3,5] rfl (CW.ss (CW.s1 rfl (CW.cT rfl ((by rw [hk];rfl)) ?_))))
 refine CW.xx (XQ.ss (XQ.ss (XQ.mm rfl (XQ.ss (XQ.mm rfl (XQ.ss (XQ.mm rfl (XQ.ss (XQ.mm rfl (XQ.ss (XQ.mm rfl (XQ.ss (XQ.hh ?_)))))))))))))
 refine NQ.ss (CW.ss (CW.sg [4] [4] (RL.p rfl (RL.fa fa_69_7 rfl (RL.lq isAgg61 rfl ?_)))))
 refine RL.conv runUnderlying61 runUnderlying32 rfl ?_
 rw [←w64_eq]
 refine RL.cq (wnum_any w none 0 ([]:List B8).length 4 (w64 r.interval) ([]) rfl zc zn (w64_lt _)) call145 rfl (.inr rfl) ?_
 rintro _ _ _ ⟨rfl,ob1',cp1,rfl⟩
 refine RL.ns (CW.ok [0,3] rfl (CW.rD (Sq.of (rg 0 10)) [7,10] [7,10] [0,1,2,3,5,6,8,9] mixed zi ?_))
 refine RL.q rfl (RL.p rfl (RL.fa fa_217_0 rfl (RL.lq isAgg74 rfl ?_)))
 refine RL.fa fa_69_10 rfl (RL.sliceAll runUnderlying31 sizeOf5 zc rfl ?_)
 refine RL.appendA (news:=keyV r.key) el_74 rfl ⟨.leave (.take (Pick.nn _)),rfl⟩ (Src.celAt (off:=0+16) (cs:=r.cells) mQ (Nat.le_of_ble_eq_true rfl)) (ones_spec rfl) (by simp [maxLen,beN_length]) (by simp [beN_length]) ?_
 intro obK cpK hoK
 refine RL.p rfl (RL.fa fa_217_0 rfl (RL.store (vs:= [_]) sizeOf74 rfl rfl uE ?_))
 refine RL.ns (CW.ok [0,3] rfl (CW.xx (XQ.mm rfl (XQ.ss (XQ.mm rfl (XQ.ss (XQ.mm rfl (XQ.ss (XQ.mm rfl (XQ.ss (XQ.mm rfl (XQ.ss ?_))))))))))))
 refine XQ.mm rfl (XQ.ss (XQ.hh ?_))
 have e:([]++beN 4 (w64 r.interval)++keyL r.key:List B8)=bodyR r:=by unfold bodyR;simp [hk]
 have hl:([]++beN 4 (w64 r.interval):List B8).length+32=(bodyR r).length:=by rw [←e,List.length_append (bs:=keyL r.key)];rfl
 rw [own_is (ob:=obK) (n':=(bodyR r).length) (xs':=bytes (bodyR r)) hl (by rw [←e];show _=List.map U8 _;rw [List.map_append];rfl),hl]
 refine NQ.rea (I':= []) (H':= [wrt w obK (bodyR r).length cpK,own obK cpK 5 1 (bodyR r).length (bytes (bodyR r))]) (fun _ h=> h) rE ?_
 exact NQ.post (res0 rfl) (.keep (.keep .nil)) ⟨rfl,_,_,rfl⟩
theorem wput_7 (w:Nat) (r:Rdg) (hk:r.kind=7) (hr:r.Ok):Spc prog 107 #[.pointer (some ⟨w,0,none⟩), .agg r.cells.toArray] [] [wrt w none 0 0,own none 0 5 1 0 []] (WrR w (bodyR r)):=by
 refine Spc.en func107 rfl rfl (fun w0 hw0=> ?_)
 refine CW.sg [0] [] (RL.box rfl ?_)
 intro b1
 refine RL.ns (CW.sr (RL.fa fa_69_0 rfl (RL.lq isAgg3 rfl ?_)))
 refine RL.ns (CW.bs (CW.bs (CW.bs (CW.bs (CW.bs (CW.bs ?_))))))
 refine CW.bs (CW.bs (CW.bs (CW.bs (CW.bs (CW.bs (CW.bs ?_))))))
 refine CW.ss (CW.s1 rfl (CW.cF rfl ((by rw [hk];rfl)) ?_))
 refine CW.sn (CW.ss (CW.s1 rfl (CW.cF rfl ((by rw [hk];rfl)) ?_)))
 refine CW.sn (CW.ok [0,3,5] rfl (CW.ss (CW.s1 rfl (CW.cF rfl ((by rw [hk];rfl)) ?_))))
 refine CW.sn (CW.ss (CW.s1 rfl (CW.cF rfl ((by rw [hk];rfl)) ?_)))
 refine CW.sn (CW.ss (CW.s1 rfl (CW.cF rfl ((by rw [hk];rfl)) ?_)))
 refine CW.sn (CW.ok [0,3,5] rfl (CW.ss (CW.s1 rfl (CW.cF rfl ((by rw [hk];rfl)) ?_))))
 refine CW.sn (CW.ss (CW.s1 rfl (CW.cT rfl ((by rw [hk];rfl)) ?_)))
 refine CW.xx (XQ.ss (XQ.ss (XQ.mm rfl (XQ.ss (XQ.mm rfl (XQ.ss (XQ.mm rfl (XQ.ss (XQ.mm rfl (XQ.ss (XQ.mm rfl (XQ.ss (XQ.mm rfl ?_)))))))))))))
 refine XQ.ss (XQ.hh (NQ.ss (CW.sg [3] [3] (RL.p rfl (RL.fa fa_69_11 rfl (RL.lq isAgg32 rfl ?_))))))
 rw [show (Value.int .u64 r.tick)= .int .u64 ((r.tick.toNat:Nat):Int) from congrArg _ (wf_u64 hr.tick).1]
 refine RL.cq (wnum_any w none 0 ([]:List B8).length 8 r.tick.toNat ([]) rfl zc zn (wf_u64 hr.tick).2) call145 rfl (.inr rfl) ?_
 rintro _ _ _ ⟨rfl,ob1',cp1,rfl⟩
 refine RL.ns (CW.ok [0,3] rfl (CW.xx (XQ.mm rfl (XQ.ss (XQ.mm rfl (XQ.ss (XQ.mm rfl (XQ.ss (XQ.mm rfl (XQ.ss (XQ.mm rfl (XQ.ss ?_))))))))))))
 refine XQ.hh ?_
 have e:([]++beN 8 r.tick.toNat:List B8)=bodyR r:=by unfold bodyR;simp [hk,beN_byte]
 rw [←e]
 exact NQ.post (res0 rfl) (.keep (.keep (Split.nn _))) ⟨rfl,_,_,rfl⟩
theorem wput_8 (w:Nat) (r:Rdg) (hk:r.kind=8) (hr:r.Ok):Spc prog 107 #[.pointer (some ⟨w,0,none⟩), .agg r.cells.toArray] [] [wrt w none 0 0,own none 0 5 1 0 []] (WrR w (bodyR r)):=by
 refine Spc.en func107 rfl rfl (fun w0 hw0=> ?_)
 refine CW.sg [0] [] (RL.box rfl ?_)
 intro b1
 refine RL.ns (CW.sr (RL.fa fa_69_0 rfl (RL.lq isAgg3 rfl ?_)))
 refine RL.ns (CW.bs (CW.bs (CW.bs (CW.bs (CW.bs (CW.bs ?_))))))
 refine CW.bs (CW.bs (CW.bs (CW.bs (CW.bs (CW.bs (CW.bs ?_))))))
 refine CW.ss (CW.s1 rfl (CW.cF rfl ((by rw [hk];rfl)) ?_))
 refine CW.sn (CW.ss (CW.s1 rfl (CW.cF rfl ((by rw [hk];rfl)) ?_)))
 refine CW.sn (CW.ok [0,3,5] rfl (CW.ss (CW.s1 rfl (CW.cF rfl ((by rw [hk];rfl)) ?_))))
 refine CW.sn (CW.ss (CW.s1 rfl (CW.cF rfl ((by rw [hk];rfl)) ?_)))
 refine CW.sn (CW.ss (CW.s1 rfl (CW.cF rfl ((by rw [hk];rfl)) ?_)))
 refine CW.sn (CW.ok [0,3,5] rfl (CW.ss (CW.s1 rfl (CW.cF rfl ((by rw [hk];rfl)) ?_))))
 refine CW.sn (CW.ss (CW.s1 rfl (CW.cF rfl ((by rw [hk];rfl)) ?_)))
 refine CW.sn (CW.ss (CW.s1 rfl (CW.cT rfl ((by rw [hk];rfl)) ?_)))
 refine CW.xx (XQ.ss (XQ.ss (XQ.mm rfl (XQ.ss (XQ.mm rfl (XQ.ss (XQ.mm rfl (XQ.ss (XQ.mm rfl (XQ.ss (XQ.mm rfl (XQ.ss (XQ.mm rfl ?_)))))))))))))
 refine XQ.ss (XQ.mm rfl (XQ.ss (XQ.hh (NQ.ss (CW.ok [0,3] rfl (CW.sg [4] [4] (RL.p rfl (RL.fa fa_69_12 rfl (RL.lq isAgg5 rfl ?_)))))))))
 refine RL.conv runUnderlying5 runUnderlying32 rfl ?_
 rw [←w64_eq]
 refine RL.cq (wnum_any w none 0 ([]:List B8).length 1 (w64 (r.mode.toNat:Int)) ([]) rfl zc zn (w64_lt _)) call145 rfl (.inr rfl) ?_
 rintro _ _ _ ⟨rfl,ob1',cp1,rfl⟩
 refine RL.ns (CW.xx (XQ.mm rfl (XQ.ss (XQ.mm rfl (XQ.ss (XQ.mm rfl (XQ.ss (XQ.mm rfl (XQ.ss (XQ.hh ?_))))))))))
 have e:([]++beN 1 (w64 (r.mode.toNat:Int)):List B8)=bodyR r:=by unfold bodyR;simp [hk,beN_byte]
 rw [←e]
 exact NQ.post (res0 rfl) (.keep (.keep (Split.nn _))) ⟨rfl,_,_,rfl⟩
theorem wput_9 (w:Nat) (r:Rdg) (hk:r.kind=9) (hr:r.Ok):Spc prog 107 #[.pointer (some ⟨w,0,none⟩), .agg r.cells.toArray] [] [wrt w none 0 0,own none 0 5 1 0 []] (WrR w (bodyR r)):=by
 refine Spc.en func107 rfl rfl (fun w0 hw0=> ?_)
 refine CW.sg [0] [] (RL.box rfl ?_)
 intro b1
 refine RL.ns (CW.sr (RL.fa fa_69_0 rfl (RL.lq isAgg3 rfl ?_)))
 refine RL.ns (CW.bs (CW.bs (CW.bs (CW.bs (CW.bs (CW.bs ?_))))))
 refine CW.bs (CW.bs (CW.bs (CW.bs (CW.bs (CW.bs (CW.bs ?_))))))
 refine CW.ss (CW.s1 rfl (CW.cF rfl ((by rw [hk];rfl)) ?_))
 refine CW.sn (CW.ss (CW.s1 rfl (CW.cF rfl ((by rw [hk];rfl)) ?_)))
 refine CW.sn (CW.ok [0,3,5] rfl (CW.ss (CW.s1 rfl (CW.cF rfl ((by rw [hk];rfl)) ?_))))
 refine CW.sn (CW.ss (CW.s1 rfl (CW.cF rfl ((by rw [hk];rfl)) ?_)))
 refine CW.sn (CW.ss (CW.s1 rfl (CW.cF rfl ((by rw [hk];rfl)) ?_)))
 refine CW.sn (CW.ok [0,3,5] rfl (CW.ss (CW.s1 rfl (CW.cF rfl ((by rw [hk];rfl)) ?_))))
 refine CW.sn (CW.ss (CW.s1 rfl (CW.cF rfl ((by rw [hk];rfl)) ?_)))
 refine CW.sn (CW.ss (CW.s1 rfl (CW.cF rfl ((by rw [hk];rfl)) ?_)))
 refine CW.sn (CW.ok [0,3,5] rfl (CW.ss (CW.s1 rfl (CW.cF rfl ((by rw [hk];rfl)) ?_))))
 refine CW.sn (CW.ss (CW.s1 rfl (CW.cF rfl ((by rw [hk];rfl)) ?_)))
 refine CW.sn (CW.ss (CW.s1 rfl (CW.cF rfl ((by rw [hk];rfl)) ?_)))
 refine CW.sn (CW.ok [0,3,5] rfl (CW.s1 rfl (CW.cF rfl ((by rw [hk];rfl)) ?_)))
 refine CW.sn (CW.xx (XQ.mm rfl (XQ.ss (XQ.mm rfl (XQ.ss (XQ.mm rfl (XQ.ss (XQ.mm rfl (XQ.ss (XQ.mm rfl (XQ.ss (XQ.mm rfl ?_))))))))))))
 refine XQ.ss (XQ.mm rfl (XQ.ss (XQ.mm rfl (XQ.ss (XQ.mm rfl (XQ.ss (XQ.mm rfl (XQ.ss (XQ.mm rfl (XQ.ss (XQ.mm rfl (XQ.ss (XQ.hh ?_)))))))))))))
 have e:([]:List B8)=bodyR r:=by unfold bodyR;simp [hk,beN_byte]
 rw [←e]
 exact NQ.post (res0 rfl) (.drop (.keep (.keep .nil))) ⟨rfl,none,0,rfl⟩
theorem wput_10 (w:Nat) (r:Rdg) (hk:r.kind=10) (hr:r.Ok):Spc prog 107 #[.pointer (some ⟨w,0,none⟩), .agg r.cells.toArray] [] [wrt w none 0 0,own none 0 5 1 0 []] (WrR w (bodyR r)):=by
 refine Spc.en func107 rfl rfl (fun w0 hw0=> ?_)
 refine CW.sg [0] [] (RL.box rfl ?_)
 intro b1
 refine RL.ns (CW.sr (RL.fa fa_69_0 rfl (RL.lq isAgg3 rfl ?_)))
 refine RL.ns (CW.bs (CW.bs (CW.bs (CW.bs (CW.bs (CW.bs ?_))))))
 refine CW.bs (CW.bs (CW.bs (CW.bs (CW.bs (CW.bs (CW.bs ?_))))))
 refine CW.ss (CW.s1 rfl (CW.cF rfl ((by rw [hk];rfl)) ?_))
 refine CW.sn (CW.ss (CW.s1 rfl (CW.cF rfl ((by rw [hk];rfl)) ?_)))
 refine CW.sn (CW.ok [0,3,5] rfl (CW.ss (CW.s1 rfl (CW.cF rfl ((by rw [hk];rfl)) ?_))))
 refine CW.sn (CW.ss (CW.s1 rfl (CW.cF rfl ((by rw [hk];rfl)) ?_)))
 refine CW.sn (CW.ss (CW.s1 rfl (CW.cF rfl ((by rw [hk];rfl)) ?_)))
 refine CW.sn (CW.ok [0,3,5] rfl (CW.ss (CW.s1 rfl (CW.cF rfl ((by rw [hk];rfl)) ?_))))
 refine CW.sn (CW.ss (CW.s1 rfl (CW.cF rfl ((by rw [hk];rfl)) ?_)))
 refine CW.sn (CW.ss (CW.s1 rfl (CW.cF rfl ((by rw [hk];rfl)) ?_)))
 refine CW.sn (CW.ok [0,3,5] rfl (CW.ss (CW.s1 rfl (CW.cF rfl ((by rw [hk];rfl)) ?_))))
 refine CW.sn (CW.ss (CW.s1 rfl (CW.cF rfl ((by rw [hk];rfl)) ?_)))
 refine CW.sn (CW.ss (CW.s1 rfl (CW.cF rfl ((by rw [hk];rfl)) ?_)))
 refine CW.sn (CW.ok [0,3,5] rfl (CW.s1 rfl (CW.cT rfl ((by rw [hk];rfl)) ?_)))
 refine CW.xx (XQ.ss (XQ.mm rfl (XQ.ss (XQ.mm rfl (XQ.ss (XQ.mm rfl (XQ.ss (XQ.mm rfl (XQ.ss (XQ.mm rfl (XQ.ss (XQ.mm rfl (XQ.ss ?_)))))))))))))
 refine XQ.mm rfl (XQ.ss (XQ.mm rfl (XQ.ss (XQ.mm rfl (XQ.ss (XQ.mm rfl (XQ.ss (XQ.mm rfl (XQ.ss (XQ.hh (NQ.ss (CW.sg [4] [4] ?_))))))))))))
 refine RL.p rfl (RL.fa fa_69_13 rfl (RL.lq isAgg61 rfl ?_))
 refine RL.conv runUnderlying61 runUnderlying32 rfl ?_
 rw [←w64_eq]
 refine RL.cq (wnum_any w none 0 ([]:List B8).length 4 (w64 r.epoch) ([]) rfl zc zn (w64_lt _)) call145 rfl (.inr rfl) ?_
 rintro _ _ _ ⟨rfl,ob1',cp1,rfl⟩
 refine RL.ns (CW.ok [] rfl (CW.xx (XQ.hh ?_)))
 have e:([]++beN 4 (w64 r.epoch):List B8)=bodyR r:=by unfold bodyR;simp [hk,beN_byte]
 rw [←e]
 exact NQ.post (res0 rfl) (.keep (.keep (Split.nn _))) ⟨rfl,_,_,rfl⟩
theorem wput_11 (w:Nat) (r:Rdg) (hk:r.kind=11) (hr:r.Ok):Spc prog 107 #[.pointer (some ⟨w,0,none⟩), .agg r.cells.toArray] [] [wrt w none 0 0,own none 0 5 1 0 []] (WrR w (bodyR r)):=by
 refine Spc.en func107 rfl rfl (fun w0 hw0=> ?_)
 refine CW.sg [0] [] (RL.box rfl ?_)
 intro b1
 refine RL.ns (CW.sr (RL.fa fa_69_0 rfl (RL.lq isAgg3 rfl ?_)))
 refine RL.ns (CW.bs (CW.bs (CW.bs (CW.bs (CW.bs (CW.bs ?_))))))
 refine CW.bs (CW.bs (CW.bs (CW.bs (CW.bs (CW.bs (CW.bs ?_))))))
 refine CW.ss (CW.s1 rfl (CW.cF rfl ((by rw [hk];rfl)) ?_))
 refine CW.sn (CW.ss (CW.s1 rfl (CW.cF rfl ((by rw [hk];rfl)) ?_)))
 refine CW.sn (CW.ok [0,3,5] rfl (CW.ss (CW.s1 rfl (CW.cF rfl ((by rw [hk];rfl)) ?_))))
 refine CW.sn (CW.ss (CW.s1 rfl (CW.cF rfl ((by rw [hk];rfl)) ?_)))
 refine CW.sn (CW.ss (CW.s1 rfl (CW.cF rfl ((by rw [hk];rfl)) ?_)))
 refine CW.sn (CW.ok [0,3,5] rfl (CW.ss (CW.s1 rfl (CW.cF rfl ((by rw [hk];rfl)) ?_))))
 refine CW.sn (CW.ss (CW.s1 rfl (CW.cF rfl ((by rw [hk];rfl)) ?_)))
 refine CW.sn (CW.ss (CW.s1 rfl (CW.cF rfl ((by rw [hk];rfl)) ?_)))
 refine CW.sn (CW.ok [0,3,5] rfl (CW.ss (CW.s1 rfl (CW.cF rfl ((by rw [hk];rfl)) ?_))))
 refine CW.sn (CW.ss (CW.s1 rfl (CW.cF rfl ((by rw [hk];rfl)) ?_)))
 refine CW.sn (CW.ss (CW.s1 rfl (CW.cF rfl ((by rw [hk];rfl)) ?_)))
 refine CW.sn (CW.ok [0,3,5] rfl (CW.s1 rfl (CW.cF rfl ((by rw [hk];rfl)) ?_)))
 refine CW.sn (CW.xx (XQ.mm rfl (XQ.ss (XQ.mm rfl (XQ.ss (XQ.mm rfl (XQ.ss (XQ.mm rfl (XQ.ss (XQ.mm rfl (XQ.ss (XQ.mm rfl ?_))))))))))))
 refine XQ.ss (XQ.mm rfl (XQ.ss (XQ.mm rfl (XQ.ss (XQ.mm rfl (XQ.ss (XQ.mm rfl (XQ.ss (XQ.mm rfl (XQ.ss (XQ.mm rfl (XQ.ss (XQ.hh ?_)))))))))))))
 have e:([]:List B8)=bodyR r:=by unfold bodyR;simp [hk,beN_byte]
 rw [←e]
 exact NQ.post (res0 rfl) (.drop (.keep (.keep .nil))) ⟨rfl,none,0,rfl⟩
theorem wput_12 (w:Nat) (r:Rdg) (hk:r.kind=12) (hr:r.Ok):Spc prog 107 #[.pointer (some ⟨w,0,none⟩), .agg r.cells.toArray] [] [wrt w none 0 0,own none 0 5 1 0 []] (WrR w (bodyR r)):=by
 refine Spc.en func107 rfl rfl (fun w0 hw0=> ?_)
 refine CW.sg [0] [] (RL.box rfl ?_)
 intro b1
 refine RL.ns (CW.sr (RL.fa fa_69_0 rfl (RL.lq isAgg3 rfl ?_)))
 refine RL.ns (CW.bs (CW.bs (CW.bs (CW.bs (CW.bs (CW.bs ?_))))))
 refine CW.bs (CW.bs (CW.bs (CW.bs (CW.bs (CW.bs (CW.bs ?_))))))
 refine CW.ss (CW.s1 rfl (CW.cF rfl ((by rw [hk];rfl)) ?_))
 refine CW.sn (CW.ss (CW.s1 rfl (CW.cF rfl ((by rw [hk];rfl)) ?_)))
 refine CW.sn (CW.ok [0,3,5] rfl (CW.ss (CW.s1 rfl (CW.cF rfl ((by rw [hk];rfl)) ?_))))
 refine CW.sn (CW.ss (CW.s1 rfl (CW.cF rfl ((by rw [hk];rfl)) ?_)))
 refine CW.sn (CW.ss (CW.s1 rfl (CW.cF rfl ((by rw [hk];rfl)) ?_)))
 refine CW.sn (CW.ok [0,3,5] rfl (CW.ss (CW.s1 rfl (CW.cF rfl ((by rw [hk];rfl)) ?_))))
 refine CW.sn (CW.ss (CW.s1 rfl (CW.cF rfl ((by rw [hk];rfl)) ?_)))
 refine CW.sn (CW.ss (CW.s1 rfl (CW.cF rfl ((by rw [hk];rfl)) ?_)))
 refine CW.sn (CW.ok [0,3,5] rfl (CW.ss (CW.s1 rfl (CW.cT rfl ((by rw [hk];rfl)) ?_))))
 refine CW.xx (XQ.ss (XQ.ss (XQ.mm rfl (XQ.ss (XQ.mm rfl (XQ.ss (XQ.mm rfl (XQ.ss (XQ.mm rfl (XQ.ss (XQ.mm rfl (XQ.ss (XQ.mm rfl ?_)))))))))))))
 refine XQ.ss (XQ.mm rfl (XQ.ss (XQ.mm rfl (XQ.ss (XQ.hh (NQ.ss (CW.sg [4] [4] (RL.p rfl (RL.fa fa_69_16 rfl (RL.lq isAgg5 rfl ?_))))))))))
 refine RL.conv runUnderlying5 runUnderlying32 rfl ?_
 rw [←w64_eq]
 refine RL.cq (wnum_any w none 0 ([]:List B8).length 1 (w64 (r.source.toNat:Int)) ([]) rfl zc zn (w64_lt _)) call145 rfl (.inr rfl) ?_
 rintro _ _ _ ⟨rfl,ob1',cp1,rfl⟩
 refine RL.ns (CW.ok [0,3] rfl (CW.xx (XQ.mm rfl (XQ.ss (XQ.mm rfl (XQ.ss (XQ.mm rfl (XQ.ss (XQ.hh ?_)))))))))
 have e:([]++beN 1 (w64 (r.source.toNat:Int)):List B8)=bodyR r:=by unfold bodyR;simp [hk,beN_byte]
 rw [←e]
 exact NQ.post (res0 rfl) (.keep (.keep (Split.nn _))) ⟨rfl,_,_,rfl⟩
theorem wput_13 (w:Nat) (r:Rdg) (hk:r.kind=13) (hr:r.Ok):Spc prog 107 #[.pointer (some ⟨w,0,none⟩), .agg r.cells.toArray] [] [wrt w none 0 0,own none 0 5 1 0 []] (WrR w (bodyR r)):=by
 refine Spc.en func107 rfl rfl (fun w0 hw0=> ?_)
 refine CW.sg [0] [] (RL.box rfl ?_)
 intro b1
 refine RL.ns (CW.sr (RL.fa fa_69_0 rfl (RL.lq isAgg3 rfl ?_)))
 refine RL.ns (CW.bs (CW.bs (CW.bs (CW.bs (CW.bs (CW.bs ?_))))))
 refine CW.bs (CW.bs (CW.bs (CW.bs (CW.bs (CW.bs (CW.bs ?_))))))
 refine CW.ss (CW.s1 rfl (CW.cF rfl ((by rw [hk];rfl)) ?_))
 refine CW.sn (CW.ss (CW.s1 rfl (CW.cF rfl ((by rw [hk];rfl)) ?_)))
 refine CW.sn (CW.ok [0,3,5] rfl (CW.ss (CW.s1 rfl (CW.cF rfl ((by rw [hk];rfl)) ?_))))
 refine CW.sn (CW.ss (CW.s1 rfl (CW.cF rfl ((by rw [hk];rfl)) ?_)))
 refine CW.sn (CW.ss (CW.s1 rfl (CW.cF rfl ((by rw [hk];rfl)) ?_)))
 refine CW.sn (CW.ok [0,3,5] rfl (CW.ss (CW.s1 rfl (CW.cF rfl ((by rw [hk];rfl)) ?_))))
 refine CW.sn (CW.ss (CW.s1 rfl (CW.cF rfl ((by rw [hk];rfl)) ?_)))
 refine CW.sn (CW.ss (CW.s1 rfl (CW.cF rfl ((by rw [hk];rfl)) ?_)))
 refine CW.sn (CW.ok [0,3,5] rfl (CW.ss (CW.s1 rfl (CW.cF rfl ((by rw [hk];rfl)) ?_))))
 refine CW.sn (CW.ss (CW.s1 rfl (CW.cT rfl ((by rw [hk];rfl)) ?_)))
 refine CW.xx (XQ.ss (XQ.ss (XQ.mm rfl (XQ.ss (XQ.mm rfl (XQ.ss (XQ.mm rfl (XQ.ss (XQ.mm rfl (XQ.ss (XQ.mm rfl (XQ.ss (XQ.mm rfl ?_)))))))))))))
 refine XQ.ss (XQ.mm rfl (XQ.ss (XQ.mm rfl (XQ.ss (XQ.mm rfl (XQ.ss (XQ.hh (NQ.ss (CW.ss (CW.sg [4] [4] (RL.p rfl (RL.fa fa_69_12 rfl ?_))))))))))))
 refine RL.lq isAgg5 rfl ?_
 refine RL.conv runUnderlying5 runUnderlying32 rfl ?_
 rw [←w64_eq]
 refine RL.cq (wnum_any w none 0 ([]:List B8).length 1 (w64 (r.mode.toNat:Int)) ([]) rfl zc zn (w64_lt _)) call145 rfl (.inr rfl) ?_
 rintro _ _ _ ⟨rfl,ob1',cp1,rfl⟩
 refine RL.ns (CW.ok [0,3] rfl (CW.sg [3] [3] (RL.p rfl (RL.fa fa_69_9 rfl (RL.sliceAll runUnderlying27 sizeOf25 zc rfl ?_)))))
 refine RL.cc (wfix_any w ob1' (some ⟨b1,0+13,none⟩) cp1 ([]++beN 1 (w64 (r.mode.toNat:Int)):List B8).length 3 3 ([]++beN 1 (w64 (r.mode.toNat:Int))) [r.p0,r.p1,r.p2] rfl rfl zc zn (by simp only [List.mem_cons,List.not_mem_nil,or_false];rintro x (rfl | rfl | rfl) <;> first | exact wf_i64 hr.p0 | exact wf_i64 hr.p1 | exact wf_i64 hr.p2)) call144 rfl pE (Lend.cel (off:=0+13) (cs:=r.cells) mQ rfl (pre3 rfl rfl rfl) .nil) (.inr rfl) ?_
 rintro _ _ _ ⟨rfl,ob2',cp2,rfl⟩
 refine RL.ns (CW.sg [3,4] [4] (RL.p rfl (RL.fa fa_69_14 rfl (RL.lq isAgg25 rfl ?_))))
 refine RL.buildSlice [_] runUnderlying280 sizeOf25 zeroValue25 rfl rfl zc zc rfl rfl ?_
 intro b2
 refine RL.cc (wfix_any w ob2' (some ⟨b2,0,none⟩) cp2 ([]++beN 1 (w64 (r.mode.toNat:Int))++ [r.p0,r.p1,r.p2].flatMap be8':List B8).length 1 1 ([]++beN 1 (w64 (r.mode.toNat:Int))++ [r.p0,r.p1,r.p2].flatMap be8') [r.bound] rfl rfl zc zn (by simp only [List.mem_cons,List.not_mem_nil,or_false];rintro x (rfl) <;> first | exact wf_i64 hr.bound)) call144 rfl pE (Lend.all mQ rfl .nil) (.inr rfl) ?_
 rintro _ _ _ ⟨rfl,ob3',cp3,rfl⟩
 refine RL.ns (CW.ok [0,3] rfl (CW.rn (ef:= [4]) (bk:= [4]) (RL.p rfl (RL.fa fa_69_15 rfl (RL.lq isAgg61 rfl ?_)))))
 refine RL.conv runUnderlying61 runUnderlying32 rfl ?_
 rw [←w64_eq]
 refine RL.cq (wnum_any w ob3' cp3 ([]++beN 1 (w64 (r.mode.toNat:Int))++ [r.p0,r.p1,r.p2].flatMap be8'++ [r.bound].flatMap be8':List B8).length 4 (w64 r.flags) ([]++beN 1 (w64 (r.mode.toNat:Int))++ [r.p0,r.p1,r.p2].flatMap be8'++ [r.bound].flatMap be8') rfl zc zn (w64_lt _)) call145 rfl (.inr rfl) ?_
 rintro _ _ _ ⟨rfl,ob4',cp4,rfl⟩
 refine RL.ns (CW.xx (XQ.mm rfl (XQ.ss (XQ.mm rfl (XQ.ss (XQ.hh ?_))))))
 have e:([]++beN 1 (w64 (r.mode.toNat:Int))++ [r.p0,r.p1,r.p2].flatMap be8'++ [r.bound].flatMap be8'++beN 4 (w64 r.flags):List B8)=bodyR r:=by unfold bodyR;simp [hk,beN_byte]
 rw [←e]
 exact NQ.post (res0 rfl) (.keep (.keep (Split.nn _))) ⟨rfl,_,_,rfl⟩
theorem wput_14 (w:Nat) (r:Rdg) (hk:r.kind=14) (hr:r.Ok):Spc prog 107 #[.pointer (some ⟨w,0,none⟩), .agg r.cells.toArray] [] [wrt w none 0 0,own none 0 5 1 0 []] (WrR w (bodyR r)):=by
 refine Spc.en func107 rfl rfl (fun w0 hw0=> ?_)
 refine CW.sg [0] [] (RL.box rfl ?_)
 intro b1
 refine RL.ns (CW.sr (RL.fa fa_69_0 rfl (RL.lq isAgg3 rfl ?_)))
 refine RL.ns (CW.bs (CW.bs (CW.bs (CW.bs (CW.bs (CW.bs ?_))))))
 refine CW.bs (CW.bs (CW.bs (CW.bs (CW.bs (CW.bs (CW.bs ?_))))))
 refine CW.ss (CW.s1 rfl (CW.cF rfl ((by rw [hk];rfl)) ?_))
 refine CW.sn (CW.ss (CW.s1 rfl (CW.cF rfl ((by rw [hk];rfl)) ?_)))
 refine CW.sn (CW.ok [0,3,5] rfl (CW.ss (CW.s1 rfl (CW.cF rfl ((by rw [hk];rfl)) ?_))))
 refine CW.sn (CW.ss (CW.s1 rfl (CW.cF rfl ((by rw [hk];rfl)) ?_)))
 refine CW.sn (CW.ss (CW.s1 rfl (CW.cF rfl ((by rw [hk];rfl)) ?_)))
 refine CW.sn (CW.ok [0,3,5] rfl (CW.ss (CW.s1 rfl (CW.cF rfl ((by rw [hk];rfl)) ?_))))
 refine CW.sn (CW.ss (CW.s1 rfl (CW.cF rfl ((by rw [hk];rfl)) ?_)))
 refine CW.sn (CW.ss (CW.s1 rfl (CW.cF rfl ((by rw [hk];rfl)) ?_)))
 refine CW.sn (CW.ok [0,3,5] rfl (CW.ss (CW.s1 rfl (CW.cF rfl ((by rw [hk];rfl)) ?_))))
 refine CW.sn (CW.ss (CW.s1 rfl (CW.cF rfl ((by rw [hk];rfl)) ?_)))
 refine CW.sn (CW.ss (CW.s1 rfl (CW.cT rfl ((by rw [hk];rfl)) ?_)))
 refine CW.xx (XQ.ss (XQ.ss (XQ.mm rfl (XQ.ss (XQ.mm rfl (XQ.ss (XQ.mm rfl (XQ.ss (XQ.mm rfl (XQ.ss (XQ.mm rfl (XQ.ss (XQ.mm rfl ?_)))))))))))))
 refine XQ.ss (XQ.mm rfl (XQ.ss (XQ.mm rfl (XQ.ss (XQ.mm rfl (XQ.ss (XQ.mm rfl (XQ.ss (XQ.hh (NQ.ss (CW.ok [0,3] rfl (CW.sg [4] [4] ?_))))))))))))
 refine RL.p rfl (RL.fa fa_69_16 rfl (RL.lq isAgg5 rfl ?_))
 refine RL.conv runUnderlying5 runUnderlying32 rfl ?_
 rw [←w64_eq]
 refine RL.cq (wnum_any w none 0 ([]:List B8).length 1 (w64 (r.source.toNat:Int)) ([]) rfl zc zn (w64_lt _)) call145 rfl (.inr rfl) ?_
 rintro _ _ _ ⟨rfl,ob1',cp1,rfl⟩
 refine RL.ns (CW.sg [4] [4] (RL.p rfl (RL.fa fa_69_17 rfl (RL.lq isAgg5 rfl ?_))))
 refine RL.conv runUnderlying5 runUnderlying32 rfl ?_
 rw [←w64_eq]
 refine RL.cq (wnum_any w ob1' cp1 ([]++beN 1 (w64 (r.source.toNat:Int)):List B8).length 1 (w64 (r.state.toNat:Int)) ([]++beN 1 (w64 (r.source.toNat:Int))) rfl zc zn (w64_lt _)) call145 rfl (.inr rfl) ?_
 rintro _ _ _ ⟨rfl,ob2',cp2,rfl⟩
 refine RL.ns (CW.ok [0,3] rfl (CW.sg [4] [4] (RL.p rfl (RL.fa fa_69_18 rfl (RL.lq isAgg67 rfl ?_)))))
 refine RL.conv runUnderlying67 runUnderlying32 rfl ?_
 rw [←w64_eq]
 refine RL.cq (wnum_any w ob2' cp2 ([]++beN 1 (w64 (r.source.toNat:Int))++beN 1 (w64 (r.state.toNat:Int)):List B8).length 2 (w64 r.fails) ([]++beN 1 (w64 (r.source.toNat:Int))++beN 1 (w64 (r.state.toNat:Int))) rfl zc zn (w64_lt _)) call145 rfl (.inr rfl) ?_
 rintro _ _ _ ⟨rfl,ob3',cp3,rfl⟩
 refine RL.ns (CW.rn (ef:= [3]) (bk:= [3]) (RL.p rfl (RL.fa fa_69_19 rfl (RL.lq isAgg32 rfl ?_))))
 rw [show (Value.int .u64 r.counter)= .int .u64 ((r.counter.toNat:Nat):Int) from congrArg _ (wf_u64 hr.counter).1]
 refine RL.cq (wnum_any w ob3' cp3 ([]++beN 1 (w64 (r.source.toNat:Int))++beN 1 (w64 (r.state.toNat:Int))++beN 2 (w64 r.fails):List B8).length 8 r.counter.toNat ([]++beN 1 (w64 (r.source.toNat:Int))++beN 1 (w64 (r.state.toNat:Int))++beN 2 (w64 r.fails)) rfl zc zn (wf_u64 hr.counter).2) call145 rfl (.inr rfl) ?_
 rintro _ _ _ ⟨rfl,ob4',cp4,rfl⟩
 refine RL.ee (NQ.bb (NQ.ss (CW.ok [0,3] rfl (CW.sg [4] [4] (RL.p rfl (RL.fa fa_69_13 rfl (RL.lq isAgg61 rfl ?_)))))))
 refine RL.conv runUnderlying61 runUnderlying32 rfl ?_
 rw [←w64_eq]
 refine RL.cq (wnum_any w ob4' cp4 ([]++beN 1 (w64 (r.source.toNat:Int))++beN 1 (w64 (r.state.toNat:Int))++beN 2 (w64 r.fails)++beN 8 r.counter.toNat:List B8).length 4 (w64 r.epoch) ([]++beN 1 (w64 (r.source.toNat:Int))++beN 1 (w64 (r.state.toNat:Int))++beN 2 (w64 r.fails)++beN 8 r.counter.toNat) rfl zc zn (w64_lt _)) call145 rfl (.inr rfl) ?_
 rintro _ _ _ ⟨rfl,ob5',cp5,rfl⟩
 refine RL.ns (CW.ok [] rfl (CW.xx (XQ.hh ?_)))
 have e:([]++beN 1 (w64 (r.source.toNat:Int))++beN 1 (w64 (r.state.toNat:Int))++beN 2 (w64 r.fails)++beN 8 r.counter.toNat++beN 4 (w64 r.epoch):List B8)=bodyR r:=by unfold bodyR;simp [hk,beN_byte]
 rw [←e]
 exact NQ.post (res0 rfl) (.keep (.keep (Split.nn _))) ⟨rfl,_,_,rfl⟩
theorem wput_all (w:Nat) (r:Rdg) (hk:1≤r.kind∧r.kind≤14) (hr:r.Ok):Spc prog 107 #[.pointer (some ⟨w,0,none⟩), .agg r.cells.toArray] [] [wrt w none 0 0,own none 0 5 1 0 []] (WrR w (bodyR r)):=by
 have:r.kind=1∨r.kind=2∨r.kind=3∨r.kind=4∨r.kind=5∨r.kind=6∨r.kind=7∨r.kind=8∨r.kind=9∨r.kind=10∨r.kind=11∨r.kind=12∨r.kind=13∨r.kind=14:=by omega
 rcases this with h | h | h | h | h | h | h | h | h | h | h | h | h | h
 ·exact wput_1 w r h hr
 ·exact wput_2 w r h hr
 ·exact wput_3 w r h hr
 ·exact wput_4 w r h hr
 ·exact wput_5 w r h hr
 ·exact wput_6 w r h hr
 ·exact wput_7 w r h hr
 ·exact wput_8 w r h hr
 ·exact wput_9 w r h hr
 ·exact wput_10 w r h hr
 ·exact wput_11 w r h hr
 ·exact wput_12 w r h hr
 ·exact wput_13 w r h hr
 ·exact wput_14 w r h hr
end Go.Proofs.YtkineolcmdecjaaGreat
namespace Go.Proofs.YtkineolcmdecjaaGreat
open Go.PK
open Tryz
theorem fitI {q:IntKind} {n:Int} (h:wfk q n):EK.fit (.int q) (.int q n):=And.intro rfl h
theorem fit8 (b:B8):EK.fit (.int .u8) (U8 b):=show EK.fit (.int .u8) (.int .u8 b.toNat) from And.intro rfl (by have:=b.isLt;simp only [wfk,Lit.wf,IntKind.min,IntKind.max,IntKind.signed,IntKind.bits,Bool.and_eq_true,decide_eq_true_eq,Bool.false_eq_true,if_false];omega)
def shapeR:List EK:= [.int .i64, .int .i32, .int .i32, .int .i32, .int .i32, .int .i32, .int .i32, .int .i64, .int .u32, .int .i32, .int .u32, .int .u32, .int .u8, .int .i64, .int .i64, .int .i64, .int .u8, .int .u8, .int .u8, .int .u8, .int .u8, .int .u8, .int .u8, .int .u8, .int .u8, .int .u8, .int .u8, .int .u8, .int .u8, .int .u8, .int .u8, .int .u8, .int .u8, .int .u8, .int .u8, .int .u8, .int .u8, .int .u8, .int .u8, .int .u8, .int .u8, .int .u8, .int .u8, .int .u8, .int .u8, .int .u8, .int .u8, .int .u8, .int .u64, .int .u8, .int .u32, .int .i64, .int .u32, .int .u8, .int .u8, .int .u16, .int .u64]
set_option maxRecDepth 10000
theorem shape_rdg:PK.shape prog 4 69=some shapeR:=by kernel_rfl
theorem keyT_rdg:prog.keyTypeAt 4 69=true:=by kernel_rfl
theorem wide_rdg:(match prog.underlying 69 with | some (.array _ _) | some (.struct _)=> true | _=> false)=true:=by kernel_rfl
theorem cells_rdg:prog.cellsOf 69=shapeR.length:=by kernel_rfl
theorem guard_rdg:prog.eqGuardType prog.depth 69=false:=by kernel_rfl
theorem Rdg.Ok.fits {r:Rdg} (h:r.Ok):Fits shapeR r.cells:=(Fits.cons (fitI h.kind) (Fits.cons (fitI h.g0) (Fits.cons (fitI h.g1) (Fits.cons (fitI h.g2) (Fits.cons (fitI h.a0) (Fits.cons (fitI h.a1) (Fits.cons (fitI h.a2) (Fits.cons (fitI h.height) (Fits.cons (fitI h.heading) (Fits.cons (fitI h.speed) (Fits.cons (fitI h.steps) (Fits.cons (fitI h.interval) (Fits.cons (fit8 _) (Fits.cons (fitI h.p0) (Fits.cons (fitI h.p1) (Fits.cons (fitI h.p2) (Fits.cons (fit8 _) (Fits.cons (fit8 _) (Fits.cons (fit8 _) (Fits.cons (fit8 _) (Fits.cons (fit8 _) (Fits.cons (fit8 _) (Fits.cons (fit8 _) (Fits.cons (fit8 _) (Fits.cons (fit8 _) (Fits.cons (fit8 _) (Fits.cons (fit8 _) (Fits.cons (fit8 _) (Fits.cons (fit8 _) (Fits.cons (fit8 _) (Fits.cons (fit8 _) (Fits.cons (fit8 _) (Fits.cons (fit8 _) (Fits.cons (fit8 _) (Fits.cons (fit8 _) (Fits.cons (fit8 _) (Fits.cons (fit8 _) (Fits.cons (fit8 _) (Fits.cons (fit8 _) (Fits.cons (fit8 _) (Fits.cons (fit8 _) (Fits.cons (fit8 _) (Fits.cons (fit8 _) (Fits.cons (fit8 _) (Fits.cons (fit8 _) (Fits.cons (fit8 _) (Fits.cons (fit8 _) (Fits.cons (fit8 _) (Fits.cons (fitI h.tick) (Fits.cons (fit8 _) (Fits.cons (fitI h.epoch) (Fits.cons (fitI h.bound) (Fits.cons (fitI h.flags) (Fits.cons (fit8 _) (Fits.cons (fit8 _) (Fits.cons (fitI h.fails) (Fits.cons (fitI h.counter) trivial)))))))))))))))))))))))))))))))))))))))))))))))))))))))))
theorem neq_rdg {a b:Rdg} (ha:a.Ok) (hb:b.Ok) {r:Bool} (hr:r=true↔a.cells=b.cells) (x y:Operand) (w:World):(do eqGuard .neq 69 x y (.agg a.cells.toArray) (.agg b.cells.toArray);binOp .neq 69 (.agg a.cells.toArray) (.agg b.cells.toArray):Sem Value).run prog w= .ok (.bool (!r)) w:=
 neq_flat zc keyT_rdg shape_rdg wide_rdg cells_rdg guard_rdg ha.fits hb.fits hr w
theorem wf_i32at (l:List B8) (o:Nat):wfk .i32 (i32at l o):=by
 simp only [wfk,Lit.wf,i32at,IntKind.wrap,IntKind.min,IntKind.max,IntKind.signed,IntKind.bits,Bool.and_eq_true,decide_eq_true_eq]
 simp
 omega
theorem wf_i64at (l:List B8) (o:Nat):wfk .i64 (i64at l o):=by
 simp only [wfk,Lit.wf,i64at,IntKind.wrap,IntKind.min,IntKind.max,IntKind.signed,IntKind.bits,Bool.and_eq_true,decide_eq_true_eq]
 simp
 omega
theorem wf_n4 (l:List B8) (o:Nat):wfk .u32 (nat l o 4:Int):=by
 have h:=nat_lt l o 4
 simp only [wfk,Lit.wf,IntKind.min,IntKind.max,IntKind.signed,IntKind.bits,Bool.and_eq_true,decide_eq_true_eq,Bool.false_eq_true,if_false]
 omega
theorem wf_n2 (l:List B8) (o:Nat):wfk .u16 (nat l o 2:Int):=by
 have h:=nat_lt l o 2
 simp only [wfk,Lit.wf,IntKind.min,IntKind.max,IntKind.signed,IntKind.bits,Bool.and_eq_true,decide_eq_true_eq,Bool.false_eq_true,if_false]
 omega
theorem wf_n8 (l:List B8) (o:Nat):wfk .u64 (nat l o 8:Int):=by
 have h:=nat_lt l o 8
 simp only [wfk,Lit.wf,IntKind.min,IntKind.max,IntKind.signed,IntKind.bits,Bool.and_eq_true,decide_eq_true_eq,Bool.false_eq_true,if_false]
 omega
theorem rz_ok {k:Int} (h:wfk .i64 k):(rz k).Ok:=⟨h,rfl,rfl,rfl,rfl,rfl,rfl,rfl,rfl,rfl,rfl,rfl,rfl,rfl,rfl,rfl,rfl,rfl,rfl,rfl,rfl⟩
theorem getR_ok {k:Int} (hk:wfk .i64 k) (l:List B8):(getR k l).Ok:=by
 unfold getR
 by_cases h1:k=1
 ·rw [if_pos h1];exact ⟨rfl,wf_i32at _ _,wf_i32at _ _,wf_i32at _ _,wf_i32at _ _,wf_i32at _ _,wf_i32at _ _,rfl,rfl,rfl,rfl,rfl,rfl,rfl,rfl,rfl,rfl,rfl,rfl,rfl,rfl⟩
 rw [if_neg h1]
 by_cases h2:k=2
 ·rw [if_pos h2];exact ⟨rfl,rfl,rfl,rfl,rfl,rfl,rfl,wf_i64at _ _,rfl,rfl,rfl,rfl,rfl,rfl,rfl,rfl,rfl,rfl,rfl,rfl,rfl⟩
 rw [if_neg h2]
 by_cases h3:k=3
 ·rw [if_pos h3];exact ⟨rfl,rfl,rfl,rfl,rfl,rfl,rfl,rfl,wf_n4 _ _,rfl,rfl,rfl,rfl,rfl,rfl,rfl,rfl,rfl,rfl,rfl,rfl⟩
 rw [if_neg h3]
 by_cases h4:k=4
 ·rw [if_pos h4];exact ⟨rfl,rfl,rfl,rfl,rfl,rfl,rfl,rfl,rfl,wf_i32at _ _,wf_n4 _ _,rfl,rfl,rfl,rfl,rfl,rfl,rfl,rfl,rfl,rfl⟩
 rw [if_neg h4]
 by_cases h5:k=5
 ·rw [if_pos h5];exact ⟨rfl,rfl,rfl,rfl,rfl,rfl,rfl,rfl,rfl,rfl,rfl,wf_n4 _ _,wf_i64at _ _,wf_i64at _ _,wf_i64at _ _,rfl,rfl,rfl,rfl,rfl,rfl⟩
 rw [if_neg h5]
 by_cases h6:k=6
 ·rw [if_pos h6];exact ⟨rfl,rfl,rfl,rfl,rfl,rfl,rfl,rfl,rfl,rfl,rfl,wf_n4 _ _,rfl,rfl,rfl,rfl,rfl,rfl,rfl,rfl,rfl⟩
 rw [if_neg h6]
 by_cases h7:k=7
 ·rw [if_pos h7];exact ⟨rfl,rfl,rfl,rfl,rfl,rfl,rfl,rfl,rfl,rfl,rfl,rfl,rfl,rfl,rfl,wf_n8 _ _,rfl,rfl,rfl,rfl,rfl⟩
 rw [if_neg h7]
 by_cases h8:k=8
 ·rw [if_pos h8];exact ⟨rfl,rfl,rfl,rfl,rfl,rfl,rfl,rfl,rfl,rfl,rfl,rfl,rfl,rfl,rfl,rfl,rfl,rfl,rfl,rfl,rfl⟩
 rw [if_neg h8]
 by_cases h10:k=10
 ·rw [if_pos h10];exact ⟨rfl,rfl,rfl,rfl,rfl,rfl,rfl,rfl,rfl,rfl,rfl,rfl,rfl,rfl,rfl,rfl,wf_n4 _ _,rfl,rfl,rfl,rfl⟩
 rw [if_neg h10]
 by_cases h12:k=12
 ·rw [if_pos h12];exact ⟨rfl,rfl,rfl,rfl,rfl,rfl,rfl,rfl,rfl,rfl,rfl,rfl,rfl,rfl,rfl,rfl,rfl,rfl,rfl,rfl,rfl⟩
 rw [if_neg h12]
 by_cases h13:k=13
 ·rw [if_pos h13];exact ⟨rfl,rfl,rfl,rfl,rfl,rfl,rfl,rfl,rfl,rfl,rfl,rfl,wf_i64at _ _,wf_i64at _ _,wf_i64at _ _,rfl,rfl,wf_i64at _ _,wf_n4 _ _,rfl,rfl⟩
 rw [if_neg h13]
 by_cases h14:k=14
 ·rw [if_pos h14];exact ⟨rfl,rfl,rfl,rfl,rfl,rfl,rfl,rfl,rfl,rfl,rfl,rfl,rfl,rfl,rfl,rfl,wf_n4 _ _,rfl,rfl,wf_n2 _ _,wf_n8 _ _⟩
 rw [if_neg h14]
 exact rz_ok hk
def okP (r:Rdg):Prop:=∃x,gotR r.kind (bodyR r)=some x∧x.cells=r.cells
open Classical in
noncomputable def putB (r:Rdg):List B8:=if okP r then bodyR r else []
open Classical in
noncomputable def putE (r:Rdg):Int:=if okP r then 0 else 120
def PutR (r:Rdg):Value→List It→List It→Prop:=fun v I' H'=> ∃ob cap,v= .tuple #[slO ob (putB r).length cap, .int .i64 (putE r)]∧I'= []∧H'= [own ob cap 5 1 (putB r).length (bytes (putB r))]
theorem put_yes {r:Rdg} (h:okP r):putB r=bodyR r∧putE r=0:=⟨if_pos h,if_pos h⟩
theorem put_no {r:Rdg} (h: ¬okP r):putB r= []∧putE r=120:=⟨if_neg h,if_neg h⟩
end Go.Proofs.YtkineolcmdecjaaGreat
namespace Go.Proofs.YtkineolcmdecjaaGreat
open Go.PK
open Tryz
theorem bodyR_len (r:Rdg):(bodyR r).length≤100:=by
 unfold bodyR
 by_cases h1:r.kind=1
 ·rw [if_pos h1];simp [beN_length,be4_length,be8'_length,keyL]
 rw [if_neg h1]
 by_cases h2:r.kind=2
 ·rw [if_pos h2];simp [beN_length,be4_length,be8'_length,keyL]
 rw [if_neg h2]
 by_cases h3:r.kind=3
 ·rw [if_pos h3];simp [beN_length,be4_length,be8'_length,keyL]
 rw [if_neg h3]
 by_cases h4:r.kind=4
 ·rw [if_pos h4];simp [beN_length,be4_length,be8'_length,keyL]
 rw [if_neg h4]
 by_cases h5:r.kind=5
 ·rw [if_pos h5];simp [beN_length,be4_length,be8'_length,keyL]
 rw [if_neg h5]
 by_cases h6:r.kind=6
 ·rw [if_pos h6];simp [beN_length,be4_length,be8'_length,keyL]
 rw [if_neg h6]
 by_cases h7:r.kind=7
 ·rw [if_pos h7];simp [beN_length,be4_length,be8'_length,keyL]
 rw [if_neg h7]
 by_cases h8:r.kind=8
 ·rw [if_pos h8];simp [beN_length,be4_length,be8'_length,keyL]
 rw [if_neg h8]
 by_cases h10:r.kind=10
 ·rw [if_pos h10];simp [beN_length,be4_length,be8'_length,keyL]
 rw [if_neg h10]
 by_cases h12:r.kind=12
 ·rw [if_pos h12];simp [beN_length,be4_length,be8'_length,keyL]
 rw [if_neg h12]
 by_cases h13:r.kind=13
 ·rw [if_pos h13];simp [beN_length,be4_length,be8'_length,keyL]
 rw [if_neg h13]
 by_cases h14:r.kind=14
 ·rw [if_pos h14];simp [beN_length,be4_length,be8'_length,keyL]
 rw [if_neg h14]
 simp
theorem not_okP {r:Rdg} (h: ¬(1≤r.kind∧r.kind≤14)): ¬okP r:=by
 rintro ⟨x,hx, -⟩
 rw [gotR,if_neg zb] at hx
 cases hx
theorem got_ok {k:Int} (hk:wfk .i64 k) {l:List B8} {x:Rdg} (h:gotR k l=some x):x.Ok:=by
 unfold gotR at h
 split at h
 ·cases h;exact getR_ok hk l
 ·cases h
end Go.Proofs.YtkineolcmdecjaaGreat
namespace Go.Proofs.YtkineolcmdecjaaGreat
open Go.PK
open Tryz
theorem put_bad (r:Rdg) (hk: ¬(1≤r.kind∧r.kind≤14)):Spc prog 60 #[.agg r.cells.toArray] [] [] (PutR r):=by
 have hs:sizeV r.kind= .tuple #[.int .i64 0, .int .i64 120]:=by rw [sizeV,if_neg hk]
 obtain ⟨e1,e2⟩:=put_no (not_okP hk)
 refine Spc.en func60 rfl rfl (fun w0 hw0=> ?_)
 refine CW.sg [0] [] (RL.box rfl ?_)
 intro b1
 refine RL.qn rfl (CW.ss (CW.sr (RL.fa fa_69_0 rfl (RL.lq isAgg3 rfl ?_))))
 refine RL.vq (size_any r.kind) call106 rfl ?_
 refine RL.p rfl ?_
 rw [hs]
 refine RL.q rfl (RL.qn rfl (CW.ok [1,2,3,5] rfl (CW.s1 rfl (CW.cT rfl (rfl) ?_))))
 refine CW.sr (RL.p rfl (RL.qn rfl (CW.rr (RQ.ss (RQ.ownNone (e:=5) 1 ?_)))))
 unfold PutR
 rw [e1,e2]
 exact RQ.pp (res2 rfl rfl rfl) (.keep (Split.nn _)) ⟨none,0,rfl,rfl,rfl⟩
theorem put_none (r:Rdg) (hr:r.Ok) (hk:1≤r.kind∧r.kind≤14) (hg:gotR r.kind (bodyR r)=none):Spc prog 60 #[.agg r.cells.toArray] [] [] (PutR r):=by
 have hs:sizeV r.kind= .tuple #[.int .i64 (sizeR r.kind:Int), .int .i64 0]:=by rw [sizeV,if_pos hk]
 have hbl:=bodyR_len r
 have hno: ¬okP r:=by
  rintro ⟨x,hx, -⟩
  rw [hg] at hx
  cases hx
 obtain ⟨e1,e2⟩:=put_no hno
 refine Spc.en func60 rfl rfl (fun w0 hw0=> ?_)
 refine CW.sg [0] [] (RL.box rfl ?_)
 intro b1
 refine RL.qn rfl (CW.ss (CW.sr (RL.fa fa_69_0 rfl (RL.lq isAgg3 rfl ?_))))
 refine RL.vq (size_any r.kind) call106 rfl ?_
 refine RL.p rfl ?_
 rw [hs]
 refine RL.q rfl (RL.qn rfl (CW.ok [1,2,3,5] rfl (CW.s1 rfl (CW.cF rfl (rfl) ?_))))
 refine CW.sn (CW.ss (CW.ownNone (e:=5) 1 (CW.rn (ef:= [1]) (bk:= []) (RL.bS _ zeroValue217 pl_217 rfl (RL.box rfl ?_)))))
 intro b2
 refine RL.pn rfl (CW.ok [1,6] rfl (CW.sg [2] [2] (RL.p rfl (RL.lW isAgg69 sizeOf69 rfl mQ zf ?_))))
 refine RL.cq (wput_all b2 r hk hr) call107 rfl (.inr rfl) ?_
 rintro _ _ _ ⟨rfl,ob,cap,rfl⟩
 refine RL.ns (CW.s2 ?_)
 refine CW.ff (p:=(bodyR r).length≤cap) (fun w hC=> own_cap (hC.s.h (own ob cap 5 1 (bodyR r).length (bytes (bodyR r))) mQ)) (fun hcap=> ?_)
 refine CW.rD (Sq.of (rg 0 12)) [10,11] [11] [0,2,3,4,7,8,9,12] mixed zi ?_
 refine RL.fa fa_69_0 rfl (RL.lq isAgg3 rfl ?_)
 refine RL.q rfl (RL.fa fa_217_0 rfl (RL.lq isAgg74 rfl ?_))
 refine RL.vv (get_any r.kind (ob.map fun b=> ⟨b,0,none⟩) (bodyR r).length cap (bodyR r) rfl hcap zb) call108 rfl (Lend.own mQ .nil) ?_
 refine RL.p rfl ?_
 rw [hg]
 unfold gotV
 refine RL.q rfl (RL.al zeroValue69 rfl ?_)
 intro b3
 refine RL.sq sizeOf69 rfl ?_
 refine RL.pn rfl (CW.ok [1,6,7,8] rfl (CW.sr (RL.q rfl (RL.p rfl (RL.tt (d:=35) (v':= .bool true) rfl (rfl) ?_)))))
 refine RL.q rfl (RL.qn rfl (CW.ok [6,39] rfl (CW.cT rfl rfl (CW.s1 rfl ?_))))
 refine CW.rr (RQ.ss (RQ.ownNone (e:=5) 1 ?_))
 unfold PutR
 rw [e1,e2]
 exact RQ.pp (res2 rfl rfl rfl) (.keep (Split.nn _)) ⟨none,0,rfl,rfl,rfl⟩
theorem put_some (r x:Rdg) (hr:r.Ok) (hk:1≤r.kind∧r.kind≤14) (hg:gotR r.kind (bodyR r)=some x):Spc prog 60 #[.agg r.cells.toArray] [] [] (PutR r):=by
 have hs:sizeV r.kind= .tuple #[.int .i64 (sizeR r.kind:Int), .int .i64 0]:=by rw [sizeV,if_pos hk]
 have hbl:=bodyR_len r
 have hx:=got_ok hr.kind hg
 have hok:okP r↔x.cells=r.cells:=⟨fun ⟨y,h1,h2⟩=> by rw [hg] at h1;cases h1;exact h2,fun h=> ⟨x,hg,h⟩⟩
 refine Spc.en func60 rfl rfl (fun w0 hw0=> ?_)
 refine CW.sg [0] [] (RL.box rfl ?_)
 intro b1
 refine RL.qn rfl (CW.ss (CW.sr (RL.fa fa_69_0 rfl (RL.lq isAgg3 rfl ?_))))
 refine RL.vq (size_any r.kind) call106 rfl ?_
 refine RL.p rfl ?_
 rw [hs]
 refine RL.q rfl (RL.qn rfl (CW.ok [1,2,3,5] rfl (CW.s1 rfl (CW.cF rfl (rfl) ?_))))
 refine CW.sn (CW.ss (CW.ownNone (e:=5) 1 (CW.rn (ef:= [1]) (bk:= []) (RL.bS _ zeroValue217 pl_217 rfl (RL.box rfl ?_)))))
 intro b2
 refine RL.pn rfl (CW.ok [1,6] rfl (CW.sg [2] [2] (RL.p rfl (RL.lW isAgg69 sizeOf69 rfl mQ zf ?_))))
 refine RL.cq (wput_all b2 r hk hr) call107 rfl (.inr rfl) ?_
 rintro _ _ _ ⟨rfl,ob,cap,rfl⟩
 refine RL.ns (CW.s2 ?_)
 refine CW.ff (p:=(bodyR r).length≤cap) (fun w hC=> own_cap (hC.s.h (own ob cap 5 1 (bodyR r).length (bytes (bodyR r))) mQ)) (fun hcap=> ?_)
 refine CW.rD (Sq.of (rg 0 12)) [10,11] [11] [0,2,3,4,7,8,9,12] mixed zi ?_
 refine RL.fa fa_69_0 rfl (RL.lq isAgg3 rfl ?_)
 refine RL.q rfl (RL.fa fa_217_0 rfl (RL.lq isAgg74 rfl ?_))
 refine RL.vv (get_any r.kind (ob.map fun b=> ⟨b,0,none⟩) (bodyR r).length cap (bodyR r) rfl hcap zb) call108 rfl (Lend.own mQ .nil) ?_
 refine RL.p rfl ?_
 rw [hg]
 unfold gotV
 refine RL.q rfl (RL.al zeroValue69 rfl ?_)
 intro b3
 refine RL.sq sizeOf69 rfl ?_
 refine RL.pn rfl (CW.ok [1,6,7,8] rfl (CW.sr (RL.q rfl (RL.p rfl (RL.tt (d:=35) (v':= .bool false) rfl (rfl) ?_)))))
 refine RL.lW isAgg69 sizeOf69 rfl mQ zf ?_
 refine RL.lW isAgg69 sizeOf69 rfl mQ zf ?_
 obtain ⟨c,hc⟩:∃c:Bool,c=true↔x.cells=r.cells:=⟨@decide _ (Classical.propDecidable (x.cells=r.cells)),zm⟩
 refine RL.cmp rfl (neq_rdg (r:=c) hx hr hc _ _) (RL.pn rfl (CW.ok [6,39] rfl ?_))
 refine CW.cd rfl (fun hne=> ?_) (fun hne=> ?_)
 ·
  refine CW.s1 rfl (CW.rr (RQ.ss ?_))
  have hno: ¬okP r:=by
   rw [hok,←hc]
   intro e
   rw [e] at hne
   cases hne
  obtain ⟨e1,e2⟩:=put_no hno
  refine RQ.ownNone (e:=5) 1 ?_
  unfold PutR
  rw [e1,e2]
  exact RQ.pp (res2 rfl rfl rfl) (.keep (Split.nn _)) ⟨none,0,rfl,rfl,rfl⟩
 ·
  refine CW.sn (CW.sr (RL.q rfl (RL.fa fa_217_0 rfl (RL.lq isAgg74 rfl ?_))))
  refine RL.qn rfl (CW.ok [2,3] rfl (CW.rr ?_))
  have hyes:okP r:=by
   rw [hok,←hc]
   cases c with
   | true=> rfl
   | false=> cases hne
  obtain ⟨e1,e2⟩:=put_yes hyes
  unfold PutR
  rw [e1,e2]
  exact RQ.pp (res2 rfl rfl rfl) (.drop (.drop (.keep (Split.nn _)))) ⟨ob,cap,rfl,rfl,rfl⟩
theorem put_any (r:Rdg) (hr:r.Ok):Spc prog 60 #[.agg r.cells.toArray] [] [] (PutR r):=by
 by_cases hk:1≤r.kind∧r.kind≤14
 ·cases hg:gotR r.kind (bodyR r) with
  | none=> exact put_none r hr hk hg
  | some x=> exact put_some r x hr hk hg
 ·exact put_bad r hk
end Go.Proofs.YtkineolcmdecjaaGreat
