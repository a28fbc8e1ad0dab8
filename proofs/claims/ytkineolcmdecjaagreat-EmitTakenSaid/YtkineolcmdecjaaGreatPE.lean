import Derived.Test.YtkineolcmdecjaaGreatPD
import Derived.DeepKeys3
import Derived.ScopeJumps
namespace Go.PK
section
variable {P : Program} {L : List Oper} {ef bk : List Nat} {tq : Tq} {Q : Exit → Act → World → Prop} {N : Nat} {E : Env} {w0 : World} {S : List Nat} {I H : List It} {i : Nat} {l : Sq}
variable {d : Nat} {x y z : Operand} {ty t yt : TypeId} {pos : String} {af : Array Edge} {g : Option (Nat × Bool)} {v : Value} {k k' : IntKind} {m n : Int}
theorem bss_app (a b:List It):bss (a++b)=bss a++bss b:=List.flatMap_append
def allI (l:List It):It where
 bs:=bss l
 A w:=∀x∈l,x.A w
 fr w w' h hA x hx:=x.fr w w' (fun b hb=> h b (mem_bss.2 ⟨x,hx,hb⟩)) (hA x hx)
 lt w hA b hb:=by
  obtain ⟨x,hx,hb⟩:=mem_bss.1 hb
  exact x.lt w (hA x hx) b hb
theorem bss_all (l B:List It):bss (allI l::B)=bss (l++B):=by rw [bss_app,bss_cons];rfl
theorem Cls.unpack {l B:List It} {w:World} (h:Cls w0 S I (allI l::B) w):Cls w0 S I (l++B) w:=by
 obtain ⟨h1,h2,h3⟩:=h
 rw [bss_all] at h3
 refine ⟨h1,⟨h2.i,fun y hy=> ?_,by rw [←bss_all];exact h2.nd,by rw [←bss_all];exact h2.dj⟩,h3⟩
 rcases List.mem_append.1 hy with hy | hy
 ·exact h2.h _ (List.Mem.head _) y hy
 ·exact h2.h y (by simp [hy])
theorem Cls.pack {l B:List It} {w:World} (h:Cls w0 S I (l++B) w):Cls w0 S I (allI l::B) w:=by
 obtain ⟨h1,h2,h3⟩:=h
 rw [←bss_all] at h3
 refine ⟨h1,⟨h2.i,fun y hy=> ?_,by rw [bss_all];exact h2.nd,by rw [bss_all];exact h2.dj⟩,h3⟩
 rcases List.mem_cons.1 hy with rfl | hy
 ·exact fun y hy=> h2.h y (List.mem_append_left _ hy)
 ·exact h2.h y (List.mem_append_right _ hy)
theorem bss_perm {a b:List It} (h:a.Perm b):(bss a).Perm (bss b):=h.flatMap_right _
theorem Cls.perm {H':List It} {w:World} (hp:H.Perm H') (h:Cls w0 S I H w):Cls w0 S I H' w:=by
 have hb:=bss_perm hp
 exact ⟨h.k,⟨h.s.i,fun y hy=> h.s.h y (hp.mem_iff.2 hy),hb.nodup_iff.1 h.s.nd,fun b hi hh=> h.s.dj b hi (hb.mem_iff.2 hh)⟩,fun b hh=> h.own b (hb.mem_iff.2 hh)⟩
theorem CW.unpack {l B:List It} {cc:Code} (h:CW P cc Q N E w0 S I (l++B)):CW P cc Q N E w0 S I (allI l::B):=fun a w ha hw=> h a w ha hw.unpack
theorem CW.pack {l B:List It} {cc:Code} (h:CW P cc Q N E w0 S I (allI l::B)):CW P cc Q N E w0 S I (l++B):=fun a w ha hw=> h a w ha hw.pack
theorem RQ.pack {l B:List It} (h:RQ Q N E w0 S I (allI l::B)):RQ Q N E w0 S I (l++B):=fun a w ha hw=> h a w ha hw.pack
theorem CW.perm {H':List It} {cc:Code} (hp:H.Perm H') (h:CW P cc Q N E w0 S I H'):CW P cc Q N E w0 S I H:=fun a w ha hw=> h a w ha (hw.perm hp)
end
section
variable {P : Program} {L : List Oper} {ef bk : List Nat} {tq : Tq} {Q : Exit → Act → World → Prop} {N : Nat} {E : Env} {w0 : World} {S : List Nat} {I H : List It} {i : Nat} {l : Sq}
variable {d : Nat} {x y z : Operand} {v : Value} {ty t yt : TypeId} {pos : String} {af : Array Edge} {g : Option (Nat × Bool)}
end
theorem zeroCells_reps {zs:List Value} {n sz:Nat} (hsz:zs.length=sz) (hpos:0 < sz):Builtin.zeroCells zs.toArray n=(reps zs n).toArray:=by
 subst hsz
 rw [←zeros_reps rfl hpos]
 simp [Builtin.zeroCells]
theorem reps_length (zs:List Value):∀n,(reps zs n).length=n*zs.length
 | 0=> by simp [reps]
 | n+1=> by rw [reps,List.length_append,reps_length zs n,Nat.add_mul,Nat.one_mul,Nat.add_comm]
theorem reps_add (zs:List Value) (m:Nat):∀n,reps zs (n+m)=reps zs n++reps zs m
 | 0=> by simp [reps]
 | n+1=> by rw [show n+1+m=n+m+1 by omega,reps,reps,reps_add zs m n,List.append_assoc]
theorem run_appendMk0 {P:Program} {t e ti ty:TypeId} {sz bytes:Nat} (T:ElemT P t e sz bytes) {zs:List Value} (hz0:∀ii z,P.info? e=some ii→ii.zero=some z→z.cells=zs.toArray) (hsz':zs.length=sz) (hti:∀w,(underlying ti).run P w= .ok (.int .i64) w) {mm:Nat} {w:World}
  (hm0:0 < mm) (hm:mm≤maxLen) (hby:mm*bytes≤140737488355328):
  ∃b cap' w',(Builtin.append_ #[t,ti] ty #[.slice none 0 0, .int .i64 (mm:Int)]).run P w= .ok (.slice (some ⟨b,0,none⟩) mm cap') w'∧(own (some b) cap' e sz 0 []).A w'∧Keeps [] w w'∧w.heap.size≤b:=by
 obtain ⟨ii,z',hi,hz,hsz,hb,hzs⟩:=T.inf
 have hzc:=hz0 ii z' hi hz
 have hpos:=T.pos
 have h63:((mm:Nat):Int)≤9223372036854775807:=by simp only [maxLen] at hm;omega
 have hwr:IntKind.i64.wrap (mm:Int)=(mm:Int):=IntWalk.i64_in _ zb
 have hneg: ¬((mm:Int) < 0):=by omega
 subst hb
 have h48a: ¬((281474976710656:Int) < (mm:Int)*(ii.bytes:Int)):=by
  have:((mm*ii.bytes:Nat):Int)=(mm:Int)*(ii.bytes:Int):=by simp
  omega
 have h48': ¬(281474976710656 < Builtin.nextslicecap mm 0*ii.bytes):=by rw [nextslicecap_zero zb];omega
 have hge:=grownCap_ge w mm 0 e
 have hcm:grownCap w mm 0 e≤maxLen:=grownCap_le_maxLen w mm 0 e hm
 have hne:mm*ii.size≠0:=by rw [hsz];exact Nat.ne_of_gt (Nat.mul_pos hm0 hpos)
 refine ⟨w.heap.size,grownCap w mm 0 e,w.drew.alloc (.cells ((reps zs mm).toArray++(reps zs (grownCap w mm 0 e - mm)).toArray) e), ?_, ?_,(Keeps.drew _ w _ (Nat.le_succ _)).trans (Keeps.alloc _ w.drew _),Nat.le_refl _⟩
 ·have hmm: ¬mm=0:=by omega
  simp [Builtin.append_,run_underlying T.ut,sizeOf,typeInfo,hi,hti,asInt,asIntOf,hwr,hneg,h48a,hmm,hne,show¬((9223372036854775807:Int) < (mm:Int)) by omega,h48',Question.forced,run_firstCells_none,zeroValue,hz,hzc,zeroCells_reps hsz' hpos,newRow,grownCap]
 ·refine ⟨zm,Nat.zero_le _,hcm,reps zs (grownCap w mm 0 e),⟨(0,0), ?_, .inl rfl⟩,by rw [List.nil_append,reps_length,hsz']⟩
  have:=heap_alloc_same w.drew (.cells ((reps zs mm).toArray++(reps zs (grownCap w mm 0 e - mm)).toArray) e)
  rw [show w.drew.heap.size=w.heap.size from rfl] at this
  rw [this,List.nil_append,show grownCap w mm 0 e=mm+(grownCap w mm 0 e - mm) by omega,reps_add]
  simp
section
variable {P : Program} {L : List Oper} {ef bk : List Nat} {tq : Tq} {Q : Exit → Act → World → Prop} {N : Nat} {E : Env} {w0 : World} {S : List Nat} {I H : List It} {i : Nat} {l : Sq}
variable {d : Nat} {x y z : Operand} {ty t yt : TypeId} {pos : String} {af : Array Edge} {g : Option (Nat × Bool)} {k : IntKind} {m n o : Int}
theorem RL.appendMk0 {e ti:TypeId} {sz bytes mm:Nat} {zs:List Value} (T:ElemT P t e sz bytes) (hz0:∀ii z,P.info? e=some ii→ii.zero=some z→z.cells=zs.toArray) (hsz':zs.length=sz) (hti:∀w,(underlying ti).run P w= .ok (.int .i64) w)
  (ho:gt L E N i=some ⟨some d, .call ⟨.builtin .append, #[x,y], #[t,ti]⟩,ty,pos,af,g⟩) (hi:ef.contains i=true)
  (hx:E.ev x=some (.slice none 0 0)) (hy:E.ev y=some (.int .i64 (mm:Int))) (hm0:0 < mm) (hm:mm≤maxLen) (hby:mm*bytes≤140737488355328)
  (h:∀b cap',RL P L ef bk tq Q l N ((d, .slice (some ⟨b,0,none⟩) mm cap')::E) w0 S I (PK.own (some b) cap' e sz 0 []::H)):RL P L ef bk tq Q (.cons i l) N E w0 S I H:=by
 refine RL.eff (gt1 ho) (gt2 ho) hi rfl (gt3 ho) (fun a w ha hC=> ?_)
 obtain ⟨b,cap',w',r1,r2,r3,r4⟩:=run_appendMk0 (ty:=ty) (w:=w) T hz0 hsz' hti hm0 hm hby
 unfold does
 rw [exec_append (ha.ev hx) (ha.ev hy) r1]
 exact ⟨I,_,hC.more r3 r2 (by simp [PK.own]) (by simpa [PK.own] using r4),fun _ h=> h,fun _ _ h=> h.less,h b cap'⟩
theorem exec_capS {ρ:Operand→Value} {dst:Option Tmp} {e:TypeId} {p:Option Addr} {len cap:Nat} (hu:∀w,(underlying t).run P w= .ok (.slice e) w) (hx:ρ x= .slice p len cap) (w:World):
  (execOp ρ ⟨dst, .call ⟨.builtin .cap, #[x], #[t]⟩,ty,pos,af,g⟩).run P w= .ok (.value (.int .i64 cap)) w:=by
 simp only [BigFrame.execOp_builtin,BigFrame.builtin_cap,List.map_toArray,List.map_cons,List.map_nil,hx]
 simp [Builtin.cap_,goInt,hu]
theorem RL.capS {e:TypeId} {p:Option Addr} {len cap:Nat} (hu:∀w,(underlying t).run P w= .ok (.slice e) w) (ho:gt L E N i=some ⟨some d, .call ⟨.builtin .cap, #[x], #[t]⟩,ty,pos,af,g⟩)
  (hx:E.ev x=some (.slice p len cap)) (h:RL P L ef bk tq Q l N ((d, .int .i64 cap)::E) w0 S I H):RL P L ef bk tq Q (.cons i l) N E w0 S I H:=
 RL.pval (gt1 ho) (gt2 ho) rfl (gt3 ho) (fun _ w ha=> exec_capS hu (ha.ev hx) w) h
end
section
variable {P : Program} {Q : Exit → Act → World → Prop} {N : Nat} {E : Env} {w0 : World} {S : List Nat} {I H : List It}
def MidG {γ:Type} (N:Nat) (p:γ→Prop) (E:γ→Env) (w0:World) (S:List Nat) (I H:γ→List It):Exit→Act→World→Prop:=fun e a w=> e= .normal∧∃g,p g∧Ag N a (E g)∧Cls w0 S (I g) (H g) w
theorem CW.cutG {γ:Type} {c y:Code} (p:γ→Prop) (E':γ→Env) (I' H':γ→List It) (h1:CW P c (MidG N p E' w0 S I' H') N E w0 S I H) (h2:∀g,p g→CW P y Q N (E' g) w0 S (I' g) (H' g)):CW P c (Exit.then (fun a w=> y.wp P Q a w) Q) N E w0 S I H:=fun a w ha hw=>
 wp_mono (h1 a w ha hw) (fun e a' w' ⟨he,g,hp,ha',hw'⟩=> by subst he;exact h2 g hp a' w' ha' hw')
theorem CW.cutN {γ:Type} {c:Code} (p:γ→Prop) (E':γ→Env) (I' H':γ→List It) (h1:CW P c (MidG N p E' w0 S I' H') N E w0 S I H) (h2:∀g,p g→NQ Q N (E' g) w0 S (I' g) (H' g)):CW P c Q N E w0 S I H:=fun a w ha hw=>
 wp_mono (h1 a w ha hw) (fun e a' w' ⟨he,g,hp,ha',hw'⟩=> by subst he;exact h2 g hp a' w' ha' hw')
theorem NQ.gg {γ:Type} {p:γ→Prop} {E':γ→Env} {I' H':γ→List It} (g:γ) (hp:p g) (s:Sub E (E' g)) (hc:∀w,Cls w0 S I H w→Cls w0 S (I' g) (H' g) w):NQ (MidG N p E' w0 S I' H') N E w0 S I H:=fun _ _ ha hw=> ⟨rfl,g,hp,ha.sub s,hc _ hw⟩
variable {L : List Oper} {ef bk : List Nat} {tq : Tq} {i : Nat} {l : Sq} {d : Nat} {x : Operand} {ty t : TypeId} {pos : String} {af : Array Edge} {g : Option (Nat × Bool)}
end
section
variable {P : Program} {L : List Oper} {ef bk : List Nat} {tq : Tq} {Q : Exit → Act → World → Prop} {N : Nat} {E : Env} {w0 : World} {S : List Nat} {I H : List It} {i : Nat} {l : Sq}
variable {d : Nat} {y : Operand} {ty : TypeId} {pos : String} {af : Array Edge} {g : Option (Nat × Bool)}
theorem RL.makeFunc {fn:Fn} {xs ys:Array Operand} {vs cs:List Value} (ho:gt L E N i=some ⟨some d, .makeFunc fn xs ys,ty,pos,af,g⟩)
  (hx:evs E xs.toList=some vs) (hy:evs E ys.toList=some cs) (h:RL P L ef bk tq Q l N ((d, .func fn vs.toArray cs.toArray)::E) w0 S I H):RL P L ef bk tq Q (.cons i l) N E w0 S I H:=
 RL.pval (gt1 ho) (gt2 ho) rfl (gt3 ho) (fun a w ha=> by
  have h1:xs.map a.eval=vs.toArray:=by
   apply Array.toList_inj.1;simpa using ha.evs hx
  have h2:ys.map a.eval=cs.toArray:=by
   apply Array.toList_inj.1;simpa using ha.evs hy
  show Sem.run P (do pure (Next.value (←Instr.makeFunc fn (xs.map a.eval) (ys.map a.eval)))) w=_
  rw [h1,h2]
  simp [Instr.makeFunc]) h
theorem RL.callvFC {f:FuncId} {args cs all:List Value} {C:List It} {u:Value} {xs:Array Operand} {ats:Array TypeId} (hfn:Spc P f all.toArray C [] (Is u))
  (hrun:∀args w,(callFunc f args).run P w= .ok (.enter f args) w) (ho:gt L E N i=some ⟨some d, .call ⟨.value y,xs,ats⟩,ty,pos,af,g⟩) (hy:E.ev y=some (.func (.func f) #[] cs.toArray)) (hx:evs E xs.toList=some args) (hl:Lend I H C) (has:args++cs=all)
  (h:RL P L ef bk tq Q l N ((d,u)::E) w0 S I H) (ht:tq.l.contains i=false:=by rfl):RL P L ef bk tq Q (.cons i l) N E w0 S I H:=by
 subst has
 refine RL.quiet (gt1 ho) (gt2 ho) rfl (gt3 ho) (fun a w ha hC=> ?_) h rfl ht
 unfold does
 rw [exec_callF (ha.ev hy),hrun]
 have hargs:(#[]++xs.map a.eval++cs.toArray)=(args++cs).toArray:=by
  have:=ha.evs hx
  apply Array.toList_inj.1
  simpa using this
 show Calls P f _ w _
 rw [hargs]
 refine (hfn w (hC.s.part (Pick.nn H) hl).1).mono ?_
 rintro e w' ⟨v,I',H',he,⟨rfl,rfl,rfl⟩,hk,hs,hn,hni⟩
 exact ⟨v,he,rfl,hk⟩
end
theorem fit_bits {k:EK} {v:Value} (h:k.fit v) (n:Nat):Instr.sameBits n v v=true:=by
 cases k <;> cases v <;> simp_all [EK.fit,Instr.sameBits]
 next s=> cases s with
  | mk d=> show (d==d)=true;simp
theorem fits_bits {n:Nat}:∀ {ks:List EK} {cs:List Value},Fits ks cs→(cs.zip cs).all (fun (x,y)=> Instr.sameBits n x y)=true
 | [], [],_=> rfl
 | k::ks,c::cs,h=> by
  rw [List.zip_cons_cons,List.all_cons,fits_bits h.2]
  simp [fit_bits h.1 n]
 | [],_::_,h=> h.elim
 | _::_, [],h=> h.elim
theorem keyT_flat {P:Program} {t:TypeId} {ks:List EK} {m:Nat} (hm:m≤10000) (hk:P.keyTypeAt m t=true) (hs:shape P m t=some ks) (hw:(match P.underlying t with | some (.array _ _) | some (.struct _)=> true | _=> false)=true) (hcs:P.cellsOf t=ks.length)
  (hu:∃D,(∀w,(underlying t).run P w= .ok D w)∧∀a b:Array Value,Instr.sameNow D (.agg a) (.agg b)=none):KeyT P t (fun v=> ∃cs,Fits ks cs∧v= .agg cs.toArray) where
 desc:=by
  obtain ⟨D,h1,h2⟩:=hu
  refine ⟨D,h1, ?_⟩
  rintro _ _ ⟨c,hc,rfl⟩ ⟨d,hd,rfl⟩
  exact .inl (h2 _ _)
 eq:=by
  rintro _ _ ⟨c,hc,rfl⟩ ⟨d,hd,rfl⟩ w
  exact run_equal_flat hm hk hs hw hcs hc hd (by rw [same_iff];simp) w
 chk:=by
  rintro _ ⟨c,hc,rfl⟩ e w
  have hf:(Value.agg c.toArray).formed P t=true:=by
   have:=hc.length
   simp only [Value.formed]
   split at hw <;> simp_all
  have:=run_checkKey_deep (P:=P) e (10000 - m) m t hk w m (.agg c.toArray) _ hf (by simpa [Value.cells] using keyLits_fits hs hc)
  rwa [show 10000 - m+m=10000 by omega] at this
 bits:=by
  rintro _ ⟨c,hc,rfl⟩
  rw [show (10000:Nat)=9999+1 from rfl,Instr.sameBits]
  simp only [beq_self_eq_true,Bool.true_and]
  exact fits_bits hc
section
variable {P : Program} {Q : Exit → Act → World → Prop} {K J : Act → World → Prop} {N id l : Nat} {E : Env} {w0 : World} {S : List Nat} {I H : List It}
def GQ (Q:Exit→Act→World→Prop) (l:Nat) (N:Nat) (E:Env) (w0:World) (S:List Nat) (I H:List It):Prop:=∀a w,Ag N a E→Cls w0 S I H w→Q (.goto l) a w
theorem GQ.seq (h:GQ Q l N E w0 S I H):GQ (Exit.then K Q) l N E w0 S I H:=h
theorem GQ.block (h:GQ Q l N E w0 S I H):GQ (Exit.inBlock id Q) l N E w0 S I H:=h
def JQ {γ:Type} (N:Nat) (p:γ→Prop) (E:γ→Env) (w0:World) (S:List Nat) (I H:γ→List It):Act→World→Prop:=fun a w=> ∃g,p g∧Ag N a (E g)∧Cls w0 S (I g) (H g) w
theorem GQ.at {γ:Type} {p:γ→Prop} {E':γ→Env} {I' H':γ→List It} (g:γ) (hp:p g) (s:Sub E (E' g)) (hc:∀w,Cls w0 S I H w→Cls w0 S (I' g) (H' g) w):GQ (Exit.jump l (JQ N p E' w0 S I' H') Q) l N E w0 S I H:=fun _ _ ha hw=> ⟨rfl,g,hp,ha.sub s,hc _ hw⟩
end
section
variable {P : Program} {L : List Oper} {ef bk : List Nat} {tq : Tq} {Q : Exit → Act → World → Prop} {N : Nat} {E : Env} {w0 : World} {S : List Nat} {I H : List It} {i : Nat} {l : Sq}
variable {d : Nat} {ty : TypeId} {pos : String} {af : Array Edge} {g : Option (Nat × Bool)} {v : Value}
end
end Go.PK
