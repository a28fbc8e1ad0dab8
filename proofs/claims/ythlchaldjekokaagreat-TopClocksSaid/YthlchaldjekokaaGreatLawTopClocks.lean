/- TopClocks: for every input the law returns true, and its arguments read as before. Conditions: none (the statement's own constant). -/
import Derived.Test.YthlchaldjekokaaGreatG6
set_option linter.all false
namespace Go.Proofs.YthlchaldjekokaaGreat.topClocks
open Go.ChangeShapes Go.WideShapes Go.ChangeAt Go.RowKit Go.PK
set_option maxRecDepth 100000 in
theorem lifted(os:Os)(started:os.Started)(H:Type)(enc:TypeId×Value→H):ReturnsInHanded {} Tryz.checked os 3 .any (Rows.topClocksSpec.pre6 enc Tryz.prog Tryz.f3 Rows.topClocksRow.domain false) (Rows.topClocksSpec.post enc Tryz.prog Tryz.f3 false true false false):=by
 refine returnsInHanded_of_change (C:=Tryz.checked) shOwn started (by kernel_rfl) Tryz.func3 (ChangeSpec.witness6 (enc:=enc) (C:=Tryz.checked) false ⟨#[],#[.int .u8 0,.int .i64 0,.slice none 0 0],[]⟩ 8 (by kernel_rfl) (by kernel_rfl) (by kernel_rfl) (by kernel_rfl)) ?_;intro W base args ds gs before hval0 hW hcnd _;have hval:∀(j:Nat) t v,Tryz.f3.params[j]?=some t→args[j]?=some v→Value.okWide Tryz.prog W .any base t v:=hval0;have hW':=hW;obtain⟨p,q,hA0,hV,rfl,hfz,hnd⟩:=hW;have hA:DataW.TrodAll enc Tryz.prog W 0 (fun _=>true) true Tryz.f3.params.toList args.toList ds p:=hA0;rw[Tryz.params3] at hA hval;obtain⟨v0,vs0,d0,ds0,p0,q0,hargs,rfl,rfl,h0,r0⟩:=trodAll_cons hA;obtain⟨v1,vs1,d1,ds1,p1,q1,rfl,rfl,rfl,h1,r1⟩:=trodAll_cons r0;obtain⟨v2,vs2,d2,ds2,p2,q2,rfl,rfl,rfl,h2,r2⟩:=trodAll_cons r1;obtain⟨rfl,rfl,rfl⟩:=trodAll_nil r2;obtain rfl:args= #[v0,v1,v2]:=by cases args;simp_all
 obtain⟨rfl,rfl⟩:=trodVars_none hV;have lt0:∀x∈p0,x.block<W.heap.size:=by obtain⟨m,hm⟩:=h0;exact DataW.trod_lt m _ _ _ hm
 obtain⟨x0,e0,o0,t0⟩:=rU8.arg (hval 0 5 v0 rfl rfl) h0;have lt1:∀x∈p1,x.block<W.heap.size:=by obtain⟨m,hm⟩:=h1;exact DataW.trod_lt m _ _ _ hm
 obtain⟨x1,e1,o1,t1⟩:=rInt.arg (hval 1 3 v1 rfl rfl) h1;have lt2:∀x∈p2,x.block<W.heap.size:=by obtain⟨m,hm⟩:=h2;exact DataW.trod_lt m _ _ _ hm
 obtain⟨x2,e2,o2,t2⟩:=rActTs.arg (hval 2 22 v2 rfl rfl) h2;clear hA0 hval0;have hc:=topClocks_call W x0 x1 x2 o0 o1 o2 t0 t1 t2;rw[←e0,←e1,←e2] at hc;refine hc.mono fun e W' ⟨he,bel⟩=>?_;subst he;exact⟨_,rfl,_,_,_,[],_,[],hW',trodAll_mk1 (shut_bool Tryz.underlying4 _),(trodAll_cons_mk (Below.trod sh2 (by kernel_rfl) (of_decide_eq_true (by kernel_rfl)) h0 bel lt0) (trodAll_cons_mk (Below.trod sh2 (by kernel_rfl) (of_decide_eq_true (by kernel_rfl)) h1 bel lt1) (trodAll_cons_mk (Below.trod sh2 (by kernel_rfl) (of_decide_eq_true (by kernel_rfl)) h2 bel lt2) trodAll_mk0))),rfl,bel.frame _,fun h=>by cases h⟩
theorem c1:Rows.topClocksRow.wf (OpenSpec.ofChange Rows.topClocksSpec)=true:=by kernel_rfl
theorem c4:Tryz.f3.params.all (Tryz.prog.readableRec ·)=true:=by kernel_rfl
theorem c5:namedTie Tryz.prog Rows.topClocksRow.named Rows.topClocksSpec.vars=true:=by kernel_rfl
theorem c6:(Rows.topClocksRow.stops==[])=true:=by kernel_rfl
theorem c8:(Rows.topClocksRow.knobs==[])=true:=by kernel_rfl
theorem c10:(Rows.topClocksRow.inPlace==Tryz.prog.inPlace 3)=true:=by kernel_rfl
theorem c11:(Rows.topClocksRow.unfollowed==Tryz.prog.unfollowed 3)=true:=by kernel_rfl
theorem c12:(Rows.topClocksRow.recurses==Tryz.prog.recurses 3)=true:=by kernel_rfl
theorem c13:(Rows.topClocksRow.named==Tryz.prog.varsNamed 3)=true:=by kernel_rfl
theorem c14:(Rows.topClocksRow.maps==(Tryz.f3.params.toList++Rows.topClocksSpec.plain.varTypes Tryz.prog).any (Tryz.prog.mapsRec ·))=true:=by kernel_rfl
theorem c15:(Rows.topClocksRow.ifaces==(Tryz.f3.params.toList++Rows.topClocksSpec.plain.varTypes Tryz.prog).any (Tryz.prog.ifacesRec ·))=true:=by kernel_rfl
theorem c16:(Rows.topClocksRow.mapsOut==Tryz.prog.mapsAmong Tryz.f3.resultTypes.toList)=true:=by kernel_rfl
theorem c17:(Rows.topClocksRow.loops==(Tryz.f3.params.toList++Rows.topClocksSpec.plain.varTypes Tryz.prog).any (Tryz.prog.loopsFrom ·))=true:=by kernel_rfl
theorem c18:(Rows.topClocksRow.wideKeys==(Tryz.f3.params.toList++Rows.topClocksSpec.plain.varTypes Tryz.prog++Tryz.f3.resultTypes.toList).any (Tryz.prog.wideKeysFrom ·))=true:=by kernel_rfl
theorem c19:Rows.topClocksSpec.vars.all (Tryz.prog.varReadable ·)=true:=by kernel_rfl
theorem c20:Tryz.f3.resultTypes.all (fun t=>Tryz.prog.readableRec t&&decide (t<Tryz.prog.types.size))=true:=by kernel_rfl
theorem c21:(Rows.topClocksRow.ifacesOut==Tryz.f3.resultTypes.toList.any (Tryz.prog.ifacesRec ·))=true:=by kernel_rfl
theorem c22:(Rows.topClocksRow.loopsOut==Tryz.f3.resultTypes.toList.any (Tryz.prog.loopsFrom ·))=true:=by kernel_rfl
theorem c23:(Rows.topClocksRow.plainKeys==Tryz.prog.plainKeys)=true:=by kernel_rfl
theorem c24:Rows.topClocksRow.shortTexts.isNone=true:=by kernel_rfl
theorem c27:(Rows.topClocksRow.lifted==Tryz.prog.liftsFinal)=true:=by kernel_rfl
theorem c28:(Tryz.prog.make==some Rows.topClocksRow.make)=true:=by kernel_rfl
theorem c29:(Rows.topClocksRow.kinds==(if Rows.topClocksRow.domain.isEmpty then [] else Tryz.f3.params.toList.map fun t=>match Tryz.prog.underlying t with|some (.int k)=>some k|_=>none))=true:=by kernel_rfl
theorem c30:(Rows.topClocksRow.pinned==Rows.topClocksRow.pinnedBy)=true:=by kernel_rfl
theorem c31:(Rows.topClocksRow.veiled==(Tryz.f3.params.toList++Rows.topClocksSpec.plain.varTypes Tryz.prog++Tryz.f3.resultTypes.toList).any (Tryz.prog.veiledRec ·))=true:=by kernel_rfl
theorem c32:Rows.topClocksRow.veiledFits Tryz.prog Tryz.f3.params.toList (Tryz.f3.params.toList++Rows.topClocksSpec.plain.varTypes Tryz.prog++Tryz.f3.resultTypes.toList)=true:=by kernel_rfl
set_option maxRecDepth 100000 in
theorem over:Rows.topClocksRow.holds Tryz.pinned (OpenSpec.ofChange Rows.topClocksSpec):=
 OpenClaim.holds_of_wide 3 Tryz.f3 rfl rfl rfl rfl rfl rfl rfl ⟨rfl,rfl,rfl,rfl,rfl⟩ rfl rfl rfl rfl rfl (by kernel_rfl) Tryz.func3 (joined_of c1 sh2 sh3 c4 c5 c6 sh7 c8 sh9 c10 c11 c12 c13 c14 c15 c16 c17 c18 c19 c20 c21 c22 c23 c24 sh25 sh26 c27 c28 c29 c30 c31 c32)
  (of_decide_eq_true (by kernel_rfl)) (by unfold Func.isWrapper;first|(rw[if_pos (by decide+kernel)];kernel_rfl)|(rw[if_neg (by decide+kernel)];exact⟨rfl,rfl⟩))
  (fun os started H enc _=>lifted os started H enc)
theorem proved:Rows.TopClocksSaid:=over
#print axioms proved
end Go.Proofs.YthlchaldjekokaaGreat.topClocks
