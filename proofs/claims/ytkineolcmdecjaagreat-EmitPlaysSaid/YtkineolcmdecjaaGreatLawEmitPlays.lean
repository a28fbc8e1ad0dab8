/- EmitPlays: for every input the law returns true, and its arguments read as before. Conditions: none (the statement's own constant). -/
import Derived.Test.YtkineolcmdecjaaGreatShut
import Derived.Test.YtkineolcmdecjaaGreatRE
namespace Go.Proofs.YtkineolcmdecjaaGreat.emitPlays
open Go.ChangeShapes Go.WideShapes Go.ChangeAt Go.RowKit Go.PK
set_option linter.unusedVariables false
set_option maxRecDepth 100000 in
theorem lifted (os:Os) (started:os.Started) (H:Type) (enc:TypeId×Value→H):
  ReturnsInHanded {} Tryz.checked os 5 .any (Rows.emitPlaysSpec.pre6 enc Tryz.prog Tryz.f5 Rows.emitPlaysRow.domain false) (Rows.emitPlaysSpec.post enc Tryz.prog Tryz.f5 false true false false):=by
 refine returnsInHanded_of_change (C:=Tryz.checked) shOwn started (by kernel_rfl) Tryz.func5
  (ChangeSpec.witness6 (enc:=enc) (C:=Tryz.checked) false ⟨#[], #[.agg #[.slice none 0 0, .int .i64 0, .int .i64 0, .int .i64 0, .int .i64 0, .int .i64 0, .int .i64 0, .int .i64 0, .int .i64 0, .int .u8 0, .int .u8 0, .int .u8 0, .int .u8 0, .int .u8 0, .int .u8 0, .int .u8 0, .int .u8 0, .int .u8 0, .int .u8 0, .int .u8 0, .int .u8 0, .int .u8 0, .int .u8 0, .int .u8 0, .int .u8 0, .int .u8 0, .int .u8 0, .int .u8 0, .int .u8 0, .int .u8 0, .int .u8 0, .int .u8 0, .int .u8 0, .int .u8 0, .int .u8 0, .int .u8 0, .int .u8 0, .int .u8 0, .int .u8 0, .int .u8 0, .int .u8 0, .int .i64 0, .int .i64 0, .int .i64 0, .int .u64 0], .agg #[.int .u8 0, .int .u8 0, .int .u8 0, .int .u8 0, .int .u8 0, .int .u8 0, .int .u8 0, .int .u8 0, .int .u8 0, .int .u8 0, .int .u8 0, .int .u8 0, .int .u8 0, .int .u8 0, .int .u8 0, .int .u8 0, .int .u8 0, .int .u8 0, .int .u8 0, .int .u8 0, .int .u8 0, .int .u8 0, .int .u8 0, .int .u8 0, .int .u8 0, .int .u8 0, .int .u8 0, .int .u8 0, .int .u8 0, .int .u8 0, .int .u8 0, .int .u8 0], .int .i64 0, .bool false, .slice none 0 0, .agg #[.int .i64 0, .int .i64 0, .int .u32 0, .int .u64 0, .slice none 0 0, .int .u8 0, .int .u8 0, .int .u8 0, .int .u8 0, .int .u8 0, .int .u8 0, .int .u8 0, .int .u8 0, .int .u8 0, .int .u8 0, .int .u8 0, .int .u8 0, .int .u8 0, .int .u8 0, .int .u8 0, .int .u8 0]], []⟩ 8 (by kernel_rfl) (by kernel_rfl) (by kernel_rfl) (by kernel_rfl)) ?_
 intro W base args ds gs before hval0 hW hcnd _
 have hval:∀(j:Nat) t v,Tryz.f5.params[j]? =some t→args[j]? =some v→Value.okWide Tryz.prog W .any base t v:=hval0
 have hW':=hW
 obtain ⟨p,q,hA0,hV,rfl,hfz,hnd⟩:=hW
 have hA:DataW.TrodAll enc Tryz.prog W 0 (fun _=> true) true Tryz.f5.params.toList args.toList ds p:=hA0
 rw [Tryz.params5] at hA hval
 obtain ⟨v0,vs0,d0,ds0,p0,q0,hargs,rfl,rfl,h0,r0⟩:=trodAll_cons hA
 obtain ⟨v1,vs1,d1,ds1,p1,q1,rfl,rfl,rfl,h1,r1⟩:=trodAll_cons r0
 obtain ⟨v2,vs2,d2,ds2,p2,q2,rfl,rfl,rfl,h2,r2⟩:=trodAll_cons r1
 obtain ⟨v3,vs3,d3,ds3,p3,q3,rfl,rfl,rfl,h3,r3⟩:=trodAll_cons r2
 obtain ⟨v4,vs4,d4,ds4,p4,q4,rfl,rfl,rfl,h4,r4⟩:=trodAll_cons r3
 obtain ⟨v5,vs5,d5,ds5,p5,q5,rfl,rfl,rfl,h5,r5⟩:=trodAll_cons r4
 obtain ⟨rfl,rfl,rfl⟩:=trodAll_nil r5
 obtain rfl:args= #[v0,v1,v2,v3,v4,v5]:=by cases args;simp_all
 obtain ⟨rfl,rfl⟩:=trodVars_none hV
 have lt0:∀x∈p0,x.block < W.heap.size:=by obtain ⟨m,hm⟩:=h0;exact DataW.trod_lt m _ _ _ hm
 obtain ⟨x0,e0,o0,t0⟩:=rCf.arg (hval 0 34 v0 rfl rfl) h0
 have lt1:∀x∈p1,x.block < W.heap.size:=by obtain ⟨m,hm⟩:=h1;exact DataW.trod_lt m _ _ _ hm
 obtain ⟨x1,e1,o1,t1⟩:=rKey.arg (hval 1 31 v1 rfl rfl) h1
 have lt2:∀x∈p2,x.block < W.heap.size:=by obtain ⟨m,hm⟩:=h2;exact DataW.trod_lt m _ _ _ hm
 obtain ⟨x2,e2,o2,t2⟩:=rInt.arg (hval 2 3 v2 rfl rfl) h2
 have lt3:∀x∈p3,x.block < W.heap.size:=by obtain ⟨m,hm⟩:=h3;exact DataW.trod_lt m _ _ _ hm
 obtain ⟨x3,e3,o3,t3⟩:=rBool.arg (hval 3 4 v3 rfl rfl) h3
 have lt4:∀x∈p4,x.block < W.heap.size:=by obtain ⟨m,hm⟩:=h4;exact DataW.trod_lt m _ _ _ hm
 obtain ⟨x4,e4,o4,t4⟩:=rActs33.arg (hval 4 22 v4 rfl rfl) h4
 have lt5:∀x∈p5,x.block < W.heap.size:=by obtain ⟨m,hm⟩:=h5;exact DataW.trod_lt m _ _ _ hm
 obtain ⟨x5,e5,o5,t5⟩:=rFr.arg (hval 5 78 v5 rfl rfl) h5
 clear hA0 hval0
 have hc:=emitPlays_call W x0 x1 x2 x3 x4 x5 o0 o1 o2 o3 o4 o5 t0 t1 t2 t3 t4 t5
 rw [←e0,←e1,←e2,←e3,←e4,←e5] at hc
 refine hc.mono fun e W' ⟨he,bel⟩=> ?_
 subst he
 exact ⟨_,rfl,_,_,_, [],_, [],hW',trodAll_mk1 (shut_bool Tryz.underlying4 _),(trodAll_cons_mk (Below.trod sh2 (by kernel_rfl) (of_decide_eq_true (by kernel_rfl)) h0 bel lt0) (trodAll_cons_mk (Below.trod sh2 (by kernel_rfl) (of_decide_eq_true (by kernel_rfl)) h1 bel lt1) (trodAll_cons_mk (Below.trod sh2 (by kernel_rfl) (of_decide_eq_true (by kernel_rfl)) h2 bel lt2) (trodAll_cons_mk (Below.trod sh2 (by kernel_rfl) (of_decide_eq_true (by kernel_rfl)) h3 bel lt3) (trodAll_cons_mk (Below.trod sh2 (by kernel_rfl) (of_decide_eq_true (by kernel_rfl)) h4 bel lt4) (trodAll_cons_mk (Below.trod sh2 (by kernel_rfl) (of_decide_eq_true (by kernel_rfl)) h5 bel lt5) trodAll_mk0)))))),rfl,bel.frame _,fun h=> by cases h⟩
theorem c1:Rows.emitPlaysRow.wf (OpenSpec.ofChange Rows.emitPlaysSpec)=true:=by kernel_rfl
theorem c4:Tryz.f5.params.all (Tryz.prog.readableRec ·)=true:=by kernel_rfl
theorem c5:namedTie Tryz.prog Rows.emitPlaysRow.named Rows.emitPlaysSpec.vars=true:=by kernel_rfl
theorem c6:(Rows.emitPlaysRow.stops== [])=true:=by kernel_rfl
theorem c8:(Rows.emitPlaysRow.knobs== [])=true:=by kernel_rfl
theorem c10:(Rows.emitPlaysRow.inPlace==Tryz.prog.inPlace 5)=true:=by kernel_rfl
theorem c11:(Rows.emitPlaysRow.unfollowed==Tryz.prog.unfollowed 5)=true:=by kernel_rfl
theorem c12:(Rows.emitPlaysRow.recurses==Tryz.prog.recurses 5)=true:=by kernel_rfl
theorem c13:(Rows.emitPlaysRow.named==Tryz.prog.varsNamed 5)=true:=by kernel_rfl
theorem c14:(Rows.emitPlaysRow.maps==(Tryz.f5.params.toList++Rows.emitPlaysSpec.plain.varTypes Tryz.prog).any (Tryz.prog.mapsRec ·))=true:=by kernel_rfl
theorem c15:(Rows.emitPlaysRow.ifaces==(Tryz.f5.params.toList++Rows.emitPlaysSpec.plain.varTypes Tryz.prog).any (Tryz.prog.ifacesRec ·))=true:=by kernel_rfl
theorem c16:(Rows.emitPlaysRow.mapsOut==Tryz.prog.mapsAmong Tryz.f5.resultTypes.toList)=true:=by kernel_rfl
theorem c17:(Rows.emitPlaysRow.loops==(Tryz.f5.params.toList++Rows.emitPlaysSpec.plain.varTypes Tryz.prog).any (Tryz.prog.loopsFrom ·))=true:=by kernel_rfl
theorem c18:(Rows.emitPlaysRow.wideKeys==(Tryz.f5.params.toList++Rows.emitPlaysSpec.plain.varTypes Tryz.prog++Tryz.f5.resultTypes.toList).any (Tryz.prog.wideKeysFrom ·))=true:=by kernel_rfl
theorem c19:Rows.emitPlaysSpec.vars.all (Tryz.prog.varReadable ·)=true:=by kernel_rfl
theorem c20:Tryz.f5.resultTypes.all (fun t=> Tryz.prog.readableRec t && decide (t < Tryz.prog.types.size))=true:=by kernel_rfl
theorem c21:(Rows.emitPlaysRow.ifacesOut==Tryz.f5.resultTypes.toList.any (Tryz.prog.ifacesRec ·))=true:=by kernel_rfl
theorem c22:(Rows.emitPlaysRow.loopsOut==Tryz.f5.resultTypes.toList.any (Tryz.prog.loopsFrom ·))=true:=by kernel_rfl
theorem c23:(Rows.emitPlaysRow.plainKeys==Tryz.prog.plainKeys)=true:=by kernel_rfl
theorem c24:Rows.emitPlaysRow.shortTexts.isNone=true:=by kernel_rfl
theorem c27:(Rows.emitPlaysRow.lifted==Tryz.prog.liftsFinal)=true:=by kernel_rfl
theorem c28:(Tryz.prog.make==some Rows.emitPlaysRow.make)=true:=by kernel_rfl
theorem c29:(Rows.emitPlaysRow.kinds==(if Rows.emitPlaysRow.domain.isEmpty then [] else Tryz.f5.params.toList.map fun t=> match Tryz.prog.underlying t with | some (.int k)=> some k | _=> none))=true:=by kernel_rfl
theorem c30:(Rows.emitPlaysRow.pinned==Rows.emitPlaysRow.pinnedBy)=true:=by kernel_rfl
theorem c31:(Rows.emitPlaysRow.veiled==(Tryz.f5.params.toList++Rows.emitPlaysSpec.plain.varTypes Tryz.prog++Tryz.f5.resultTypes.toList).any (Tryz.prog.veiledRec ·))=true:=by kernel_rfl
theorem c32:Rows.emitPlaysRow.veiledFits Tryz.prog Tryz.f5.params.toList (Tryz.f5.params.toList++Rows.emitPlaysSpec.plain.varTypes Tryz.prog++Tryz.f5.resultTypes.toList)=true:=by kernel_rfl
set_option maxRecDepth 100000 in
theorem over:Rows.emitPlaysRow.holds Tryz.pinned (OpenSpec.ofChange Rows.emitPlaysSpec):=
 OpenClaim.holds_of_wide 5 Tryz.f5 rfl rfl rfl rfl rfl rfl rfl ⟨rfl,rfl,rfl,rfl,rfl⟩ rfl rfl rfl rfl rfl (by kernel_rfl) Tryz.func5 (joined_of c1 sh2 sh3 c4 c5 c6 sh7 c8 sh9 c10 c11 c12 c13 c14 c15 c16 c17 c18 c19 c20 c21 c22 c23 c24 sh25 sh26 c27 c28 c29 c30 c31 c32)
  (of_decide_eq_true (by kernel_rfl)) (by unfold Func.isWrapper;first | (rw [if_pos (by decide+kernel)];kernel_rfl) | (rw [if_neg (by decide+kernel)];exact ⟨rfl,rfl⟩))
  (fun os started H enc _=> lifted os started H enc)
theorem proved:Rows.EmitPlaysSaid:=over
#print axioms proved
end Go.Proofs.YtkineolcmdecjaaGreat.emitPlays
