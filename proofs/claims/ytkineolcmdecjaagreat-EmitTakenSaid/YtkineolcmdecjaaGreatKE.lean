import Derived.Test.YtkineolcmdecjaaGreatKD
import Derived.Test.YtkineolcmdecjaaGreatKC
import Derived.Test.YtkineolcmdecjaaGreatRNum12
import Derived.Test.YtkineolcmdecjaaGreatBA
import Derived.Test.YtkineolcmdecjaaGreatKB
namespace Go.Proofs.YtkineolcmdecjaaGreat
open Go.PK
open Tryz
theorem rsputfix8 (a:Int):Spc prog 161 #[.int .i64 a] [] [] (OwnN 8 (be8' a)):=OwnB.n (be8'_length a) (rsputfix_any a)
attribute [local irreducible] be8' be4 beN
set_option maxHeartbeats 20000000 in
theorem place_any (p0 p1 p2:Int):Spc prog 163 #[.agg #[.int .i64 p0, .int .i64 p1, .int .i64 p2]] [] [] (OwnB ([p0,p1,p2].flatMap be8')):=by
 have h0:=be8'_length p0
 have h1:=be8'_length p1
 have h2:=be8'_length p2
 refine Spc.en func163 rfl rfl (fun w0 hw0=> ?_)
 refine CW.sg [0] [] (RL.box rfl ?_)
 intro b1
 refine RL.pn rfl (CW.ss (CW.freezeAll rfl ?_))
 simp only [List.cons_append,List.nil_append]
 refine CW.rD (.cons 1 (.cons 2 (.cons 5 (.cons 6 (.cons 9 (.cons 10 (.fork [0,3] (fun k=> (bif Nat.beq k 0 then (Sq.of [3,4,7,8,11,12,13]) else (Sq.of [0,4,7,8,11,12,13])))))))))) [0,3,4,7,8,11,12] [4,8,12] [1,2,5,6,9,10,13] mixed zi ?_
 refine RL.iA (j:=0) runUnderlying27 sizeOf25 rfl zc ?_
 refine RL.lT isAgg25 rfl ?_
 refine RL.iA (j:=1) runUnderlying27 sizeOf25 rfl zc ?_
 refine RL.lT isAgg25 rfl ?_
 refine RL.iA (j:=2) runUnderlying27 sizeOf25 rfl zc ?_
 refine RL.lT isAgg25 rfl ?_
 refine RL.fork ⟨?_, ?_,trivial⟩
 ·
  refine RL.buildOwn [] runUnderlying74 sizeOf5 zeroValue5 rfl rfl zc zc rfl zc rfl ?_
  intro b2
  refine RL.cq (rsputfix8 p0) call161 rfl (.inl rfl) ?_
  rintro _ _ _ ⟨ob1,cap1,rfl,rfl,rfl,ho1⟩
  refine RL.appendq el_74 rfl ?_
  intro ob2 cap2 ho2
  refine RL.cq (rsputfix8 p1) call161 rfl (.inl rfl) ?_
  rintro _ _ _ ⟨ob3,cap3,rfl,rfl,rfl,ho3⟩
  refine RL.appendq el_74 rfl ?_
  intro ob4 cap4 ho4
  refine RL.cq (rsputfix8 p2) call161 rfl (.inl rfl) ?_
  rintro _ _ _ ⟨ob5,cap5,rfl,rfl,rfl,ho5⟩
  refine RL.appendq el_74 rfl ?_
  intro ob6 cap6 ho6
  refine RL.pn rfl (CW.ok [2] rfl (CW.rr ?_))
  exact RQ.ownB rfl rfl (by first | exact .keep (Split.nn _) | exact .drop (.keep (Split.nn _))) (by simp [be8'_length]) zm (by assumption)
 ·
  refine RL.cq (rsputfix8 p0) call161 rfl (.inl rfl) ?_
  rintro _ _ _ ⟨ob1,cap1,rfl,rfl,rfl,ho1⟩
  refine RL.buildOwn [] runUnderlying74 sizeOf5 zeroValue5 rfl rfl zc zc rfl zc rfl ?_
  intro b2
  refine RL.appendq el_74 rfl ?_
  intro ob2 cap2 ho2
  refine RL.cq (rsputfix8 p1) call161 rfl (.inl rfl) ?_
  rintro _ _ _ ⟨ob3,cap3,rfl,rfl,rfl,ho3⟩
  refine RL.appendq el_74 rfl ?_
  intro ob4 cap4 ho4
  refine RL.cq (rsputfix8 p2) call161 rfl (.inl rfl) ?_
  rintro _ _ _ ⟨ob5,cap5,rfl,rfl,rfl,ho5⟩
  refine RL.appendq el_74 rfl ?_
  intro ob6 cap6 ho6
  refine RL.pn rfl (CW.ok [2] rfl (CW.rr ?_))
  exact RQ.ownB rfl rfl (by first | exact .keep (Split.nn _) | exact .drop (.keep (Split.nn _))) (by simp [be8'_length]) zm (by assumption)
end Go.Proofs.YtkineolcmdecjaaGreat
namespace Go.Proofs.YtkineolcmdecjaaGreat
open Go.PK
open Tryz
theorem rput4 (a:Int):Spc prog 160 #[.int .i32 a] [] [] (OwnN 4 (be4 a)):=OwnB.n (be4_length a) (rsput_any a)
theorem rnum (a:Int) (n:Nat) (hn:n≤8):Spc prog 162 #[.int .u64 (IntKind.u64.wrap a), .int .i64 (n:Int)] [] [] (OwnN n (beN n (w64 a))):=by
 rw [←w64_eq]
 exact OwnB.n (beN_length _ _) (num12 (w64 a) n (w64_lt a) hn)
theorem rnumT (a:Int) (ha:wfk .u64 a) (n:Nat) (hn:n≤8):Spc prog 162 #[.int .u64 a, .int .i64 (n:Int)] [] [] (OwnN n (beN n a.toNat)):=by
 have h:=wf_u64 ha
 rw [congrArg (Value.int .u64) h.1]
 exact OwnB.n (beN_length _ _) (num12 a.toNat n h.2 hn)
theorem rplace (a b c:Int):Spc prog 163 #[.agg #[.int .i64 a, .int .i64 b, .int .i64 c]] [] [] (OwnN 24 ([a,b,c].flatMap be8')):=OwnB.n (by simp [be8'_length]) (place_any a b c)
theorem key_in (r:Rdg):∀(j:Nat) (u:Value),(bytes (keyL r.key))[j]? =some u→r.cells[0+16+j]? =some u:=by
 intro j u h
 have hl:j < 32:=(List.getElem?_eq_some_iff.1 h).1
 unfold Rdg.cells
 rw [List.getElem?_append_right zm,show 0+16+j - List.length _=j from by simp,List.getElem?_append_left (by exact hl)]
 exact h
attribute [local irreducible] be8' be4 beN
set_option maxHeartbeats 4000000 in
theorem rbody_2 (r:Rdg) (hk:r.kind=2) (hr:r.Ok):Spc prog 133 #[.agg r.cells.toArray] [] [] (OwnB (bodyR r)):=by
 refine Spc.en func133 rfl rfl (fun w0 hw0=> ?_)
 refine CW.sg [0] [] (RL.box rfl ?_)
 intro b1
 refine RL.pn rfl (CW.ss (CW.freezeAll rfl ?_))
 simp only [List.cons_append,List.nil_append]
 refine CW.rn (ef:= [0]) (bk:= []) (RL.buildOwn [] runUnderlying74 sizeOf5 zeroValue5 rfl rfl zc zc rfl zc rfl ?_)
 intro b2
 refine RL.pn rfl (CW.sr (RL.fa fa_69_0 rfl (RL.lq isAgg3 rfl ?_)))
 refine RL.ns (CW.bb (CW.s1 rfl (CW.cF rfl ((by rw [hk];rfl)) ?_)))
 refine CW.s1 rfl (CW.ok [1,3,8,35] rfl (CW.cT rfl ((by rw [hk];rfl)) ?_))
 refine CW.sg [2] [] (RL.fa fa_69_3 rfl (RL.lq isAgg25 rfl ?_))
 refine RL.cq (rsputfix8 r.height) call161 rfl (.inl rfl) ?_
 rintro _ _ _ ⟨ob1,cap1,rfl,rfl,rfl,ho1⟩
 refine RL.pn rfl (CW.ok [2] rfl (CW.rr (RQ.bb ?_)))
 exact RQ.ownB (l:=bodyR r) rfl rfl zj (by unfold bodyR;simp [hk,beN_length,be4_length,be8'_length,keyL]) (by unfold bodyR;simp [hk,keyL]) zq
set_option maxHeartbeats 4000000 in
theorem rbody_3 (r:Rdg) (hk:r.kind=3) (hr:r.Ok):Spc prog 133 #[.agg r.cells.toArray] [] [] (OwnB (bodyR r)):=by
 refine Spc.en func133 rfl rfl (fun w0 hw0=> ?_)
 refine CW.sg [0] [] (RL.box rfl ?_)
 intro b1
 refine RL.pn rfl (CW.ss (CW.freezeAll rfl ?_))
 simp only [List.cons_append,List.nil_append]
 refine CW.rn (ef:= [0]) (bk:= []) (RL.buildOwn [] runUnderlying74 sizeOf5 zeroValue5 rfl rfl zc zc rfl zc rfl ?_)
 intro b2
 refine RL.pn rfl (CW.sr (RL.fa fa_69_0 rfl (RL.lq isAgg3 rfl ?_)))
 refine RL.ns (CW.bb (CW.s1 rfl (CW.cF rfl ((by rw [hk];rfl)) ?_)))
 refine CW.s1 rfl (CW.ok [1,3,8,35] rfl (CW.cF rfl ((by rw [hk];rfl)) ?_))
 refine CW.s1 rfl (CW.cT rfl ((by rw [hk];rfl)) ?_)
 refine CW.sg [3] [] (RL.fa fa_69_4 rfl (RL.lq isAgg61 rfl ?_))
 refine RL.conv runUnderlying61 runUnderlying32 rfl (RL.cq (rnum r.heading 4 zc) call162 rfl (.inl rfl) ?_)
 rintro _ _ _ ⟨ob1,cap1,rfl,rfl,rfl,ho1⟩
 refine RL.pn rfl (CW.ok [2] rfl (CW.rr (RQ.bb ?_)))
 exact RQ.ownB (l:=bodyR r) rfl rfl zj (by unfold bodyR;simp [hk,beN_length,be4_length,be8'_length,keyL]) (by unfold bodyR;simp [hk,keyL]) zq
set_option maxHeartbeats 4000000 in
theorem rbody_4 (r:Rdg) (hk:r.kind=4) (hr:r.Ok):Spc prog 133 #[.agg r.cells.toArray] [] [] (OwnB (bodyR r)):=by
 refine Spc.en func133 rfl rfl (fun w0 hw0=> ?_)
 refine CW.sg [0] [] (RL.box rfl ?_)
 intro b1
 refine RL.pn rfl (CW.ss (CW.freezeAll rfl ?_))
 simp only [List.cons_append,List.nil_append]
 refine CW.rn (ef:= [0]) (bk:= []) (RL.buildOwn [] runUnderlying74 sizeOf5 zeroValue5 rfl rfl zc zc rfl zc rfl ?_)
 intro b2
 refine RL.pn rfl (CW.sr (RL.fa fa_69_0 rfl (RL.lq isAgg3 rfl ?_)))
 refine RL.ns (CW.bb (CW.s1 rfl (CW.cF rfl ((by rw [hk];rfl)) ?_)))
 refine CW.s1 rfl (CW.ok [1,3,8,35] rfl (CW.cF rfl ((by rw [hk];rfl)) ?_))
 refine CW.s1 rfl (CW.cF rfl ((by rw [hk];rfl)) ?_)
 refine CW.s1 rfl (CW.cT rfl ((by rw [hk];rfl)) ?_)
 refine CW.ss (CW.rD (Sq.of [0,1,3,4,5,2,6,7,8]) [2,6,7] [7] [0,1,3,4,5,8] mixed zi ?_)
 refine RL.fa fa_69_5 rfl (RL.lT isAgg65 rfl ?_)
 refine RL.fa fa_69_6 rfl (RL.lT isAgg61 rfl ?_)
 refine RL.conv runUnderlying61 runUnderlying32 rfl (RL.cq (rput4 r.speed) call160 rfl (.inl rfl) ?_)
 rintro _ _ _ ⟨ob1,cap1,rfl,rfl,rfl,ho1⟩
 refine RL.cq (rnum r.steps 4 zc) call162 rfl (.inl rfl) ?_
 rintro _ _ _ ⟨ob2,cap2,rfl,rfl,rfl,ho2⟩
 refine RL.appendq el_74 rfl ?_
 intro ob3 cap3 ho3
 refine RL.pn rfl (CW.ok [2] rfl (CW.rr (RQ.bb ?_)))
 exact RQ.ownB (l:=bodyR r) rfl rfl zj (by unfold bodyR;simp [hk,beN_length,be4_length,be8'_length,keyL]) (by unfold bodyR;simp [hk,keyL]) zq
set_option maxHeartbeats 4000000 in
theorem rbody_5 (r:Rdg) (hk:r.kind=5) (hr:r.Ok):Spc prog 133 #[.agg r.cells.toArray] [] [] (OwnB (bodyR r)):=by
 refine Spc.en func133 rfl rfl (fun w0 hw0=> ?_)
 refine CW.sg [0] [] (RL.box rfl ?_)
 intro b1
 refine RL.pn rfl (CW.ss (CW.freezeAll rfl ?_))
 simp only [List.cons_append,List.nil_append]
 refine CW.rn (ef:= [0]) (bk:= []) (RL.buildOwn [] runUnderlying74 sizeOf5 zeroValue5 rfl rfl zc zc rfl zc rfl ?_)
 intro b2
 refine RL.pn rfl (CW.sr (RL.fa fa_69_0 rfl (RL.lq isAgg3 rfl ?_)))
 refine RL.ns (CW.bb (CW.s1 rfl (CW.cF rfl ((by rw [hk];rfl)) ?_)))
 refine CW.s1 rfl (CW.ok [1,3,8,35] rfl (CW.cF rfl ((by rw [hk];rfl)) ?_))
 refine CW.s1 rfl (CW.cF rfl ((by rw [hk];rfl)) ?_)
 refine CW.s1 rfl (CW.cF rfl ((by rw [hk];rfl)) ?_)
 refine CW.s1 rfl (CW.ok [1,3,8,56] rfl (CW.cT rfl ((by rw [hk];rfl)) ?_))
 refine CW.ss (CW.rD (.cons 0 (.cons 1 (.cons 2 (.cons 4 (.cons 5 (.cons 8 (.cons 9 (.fork [3,6] (fun k=> (bif Nat.beq k 3 then (Sq.of [6,7,10,11,12]) else (Sq.of [3,7,10,11,12]))))))))))) [3,6,7,10,11] [7,11] [0,1,2,4,5,8,9,12] mixed zi ?_)
 refine RL.fa fa_69_7 rfl (RL.lT isAgg61 rfl ?_)
 refine RL.conv runUnderlying61 runUnderlying32 rfl (RL.fa fa_69_8 rfl (RL.lT isAgg5 rfl ?_))
 refine RL.fa fa_69_9 rfl (RL.loadNT (vs:= [_,_,_]) isAgg27 sizeOf27 rfl rfl zl ?_)
 refine RL.fork ⟨?_, ?_,trivial⟩
 ·
  refine RL.cq (rnum r.interval 4 zc) call162 rfl (.inl rfl) ?_
  rintro _ _ _ ⟨ob1,cap1,rfl,rfl,rfl,ho1⟩
  refine RL.buildOwn [_] runUnderlying74 sizeOf5 zeroValue5 rfl rfl zc zc rfl zc rfl ?_
  intro b3
  refine RL.appendq el_74 rfl ?_
  intro ob2 cap2 ho2
  refine RL.cq (rplace r.p0 r.p1 r.p2) call163 rfl (.inl rfl) ?_
  rintro _ _ _ ⟨ob3,cap3,rfl,rfl,rfl,ho3⟩
  refine RL.appendq el_74 rfl ?_
  intro ob4 cap4 ho4
  refine RL.pn rfl (CW.ok [2] rfl (CW.rr (RQ.bb ?_)))
  exact RQ.ownB (l:=bodyR r) rfl rfl zj (by unfold bodyR;simp [hk,beN_length,be4_length,be8'_length,keyL]) (by unfold bodyR;simp [hk,keyL]) zq
 ·
  refine RL.buildOwn [_] runUnderlying74 sizeOf5 zeroValue5 rfl rfl zc zc rfl zc rfl ?_
  intro b3
  refine RL.cq (rnum r.interval 4 zc) call162 rfl (.inl rfl) ?_
  rintro _ _ _ ⟨ob1,cap1,rfl,rfl,rfl,ho1⟩
  refine RL.appendq el_74 rfl ?_
  intro ob2 cap2 ho2
  refine RL.cq (rplace r.p0 r.p1 r.p2) call163 rfl (.inl rfl) ?_
  rintro _ _ _ ⟨ob3,cap3,rfl,rfl,rfl,ho3⟩
  refine RL.appendq el_74 rfl ?_
  intro ob4 cap4 ho4
  refine RL.pn rfl (CW.ok [2] rfl (CW.rr (RQ.bb ?_)))
  exact RQ.ownB (l:=bodyR r) rfl rfl zj (by unfold bodyR;simp [hk,beN_length,be4_length,be8'_length,keyL]) (by unfold bodyR;simp [hk,keyL]) zq
set_option maxHeartbeats 4000000 in
theorem rbody_6 (r:Rdg) (hk:r.kind=6) (hr:r.Ok):Spc prog 133 #[.agg r.cells.toArray] [] [] (OwnB (bodyR r)):=by
 refine Spc.en func133 rfl rfl (fun w0 hw0=> ?_)
 refine CW.sg [0] [] (RL.box rfl ?_)
 intro b1
 refine RL.pn rfl (CW.ss (CW.freezeAll rfl ?_))
 simp only [List.cons_append,List.nil_append]
 refine CW.rn (ef:= [0]) (bk:= []) (RL.buildOwn [] runUnderlying74 sizeOf5 zeroValue5 rfl rfl zc zc rfl zc rfl ?_)
 intro b2
 refine RL.pn rfl (CW.sr (RL.fa fa_69_0 rfl (RL.lq isAgg3 rfl ?_)))
 refine RL.ns (CW.bb (CW.s1 rfl (CW.cF rfl ((by rw [hk];rfl)) ?_)))
 refine CW.s1 rfl (CW.ok [1,3,8,35] rfl (CW.cF rfl ((by rw [hk];rfl)) ?_))
 refine CW.s1 rfl (CW.cF rfl ((by rw [hk];rfl)) ?_)
 refine CW.s1 rfl (CW.cF rfl ((by rw [hk];rfl)) ?_)
 refine CW.s1 rfl (CW.ok [1,3,8,56] rfl (CW.cF rfl ((by rw [hk];rfl)) ?_))
 refine CW.s1 rfl (CW.cT rfl ((by rw [hk];rfl)) ?_)
 refine CW.also (sls (some ⟨b1,0+16,none⟩) 1 32 (bytes (keyL r.key))) (fun w hw=> cel_sls (hw.i _ mQ) rfl (key_in r)) (fun c hc=> by simpa [sls,cel] using hc) ?_
 refine CW.ss (CW.rD (Sq.of [0,1,2,4,5,3,6,7]) [3,6] [6] [0,1,2,4,5,7] mixed zi ?_)
 refine RL.fa fa_69_7 rfl (RL.lT isAgg61 rfl ?_)
 refine RL.conv runUnderlying61 runUnderlying32 rfl (RL.fa fa_69_10 rfl (RL.sliceAll runUnderlying31 sizeOf5 zc rfl ?_))
 refine RL.cq (rnum r.interval 4 zc) call162 rfl (.inl rfl) ?_
 rintro _ _ _ ⟨ob1,cap1,rfl,rfl,rfl,ho1⟩
 refine RL.appendq el_74 rfl ?_
 intro ob2 cap2 ho2
 refine RL.pn rfl (CW.ok [2] rfl (CW.rr (RQ.bb ?_)))
 exact RQ.ownB (l:=bodyR r) rfl rfl zj (by unfold bodyR;simp [hk,beN_length,be4_length,be8'_length,keyL]) (by unfold bodyR;simp [hk,keyL]) zq
set_option maxHeartbeats 4000000 in
theorem rbody_7 (r:Rdg) (hk:r.kind=7) (hr:r.Ok):Spc prog 133 #[.agg r.cells.toArray] [] [] (OwnB (bodyR r)):=by
 refine Spc.en func133 rfl rfl (fun w0 hw0=> ?_)
 refine CW.sg [0] [] (RL.box rfl ?_)
 intro b1
 refine RL.pn rfl (CW.ss (CW.freezeAll rfl ?_))
 simp only [List.cons_append,List.nil_append]
 refine CW.rn (ef:= [0]) (bk:= []) (RL.buildOwn [] runUnderlying74 sizeOf5 zeroValue5 rfl rfl zc zc rfl zc rfl ?_)
 intro b2
 refine RL.pn rfl (CW.sr (RL.fa fa_69_0 rfl (RL.lq isAgg3 rfl ?_)))
 refine RL.ns (CW.bb (CW.s1 rfl (CW.cF rfl ((by rw [hk];rfl)) ?_)))
 refine CW.s1 rfl (CW.ok [1,3,8,35] rfl (CW.cF rfl ((by rw [hk];rfl)) ?_))
 refine CW.s1 rfl (CW.cF rfl ((by rw [hk];rfl)) ?_)
 refine CW.s1 rfl (CW.cF rfl ((by rw [hk];rfl)) ?_)
 refine CW.s1 rfl (CW.ok [1,3,8,56] rfl (CW.cF rfl ((by rw [hk];rfl)) ?_))
 refine CW.s1 rfl (CW.cF rfl ((by rw [hk];rfl)) ?_)
 refine CW.s1 rfl (CW.cT rfl ((by rw [hk];rfl)) ?_)
 refine CW.sg [2] [] (RL.fa fa_69_11 rfl (RL.lq isAgg32 rfl ?_))
 refine RL.cq (rnumT r.tick hr.tick 8 zc) call162 rfl (.inl rfl) ?_
 rintro _ _ _ ⟨ob1,cap1,rfl,rfl,rfl,ho1⟩
 refine RL.pn rfl (CW.ok [2] rfl (CW.rr (RQ.bb ?_)))
 exact RQ.ownB (l:=bodyR r) rfl rfl zj (by unfold bodyR;simp [hk,beN_length,be4_length,be8'_length,keyL]) (by unfold bodyR;simp [hk,keyL]) zq
set_option maxHeartbeats 4000000 in
theorem rbody_8 (r:Rdg) (hk:r.kind=8) (hr:r.Ok):Spc prog 133 #[.agg r.cells.toArray] [] [] (OwnB (bodyR r)):=by
 refine Spc.en func133 rfl rfl (fun w0 hw0=> ?_)
 refine CW.sg [0] [] (RL.box rfl ?_)
 intro b1
 refine RL.pn rfl (CW.ss (CW.freezeAll rfl ?_))
 simp only [List.cons_append,List.nil_append]
 refine CW.rn (ef:= [0]) (bk:= []) (RL.buildOwn [] runUnderlying74 sizeOf5 zeroValue5 rfl rfl zc zc rfl zc rfl ?_)
 intro b2
 refine RL.pn rfl (CW.sr (RL.fa fa_69_0 rfl (RL.lq isAgg3 rfl ?_)))
 refine RL.ns (CW.bb (CW.s1 rfl (CW.cF rfl ((by rw [hk];rfl)) ?_)))
 refine CW.s1 rfl (CW.ok [1,3,8,35] rfl (CW.cF rfl ((by rw [hk];rfl)) ?_))
 refine CW.s1 rfl (CW.cF rfl ((by rw [hk];rfl)) ?_)
 refine CW.s1 rfl (CW.cF rfl ((by rw [hk];rfl)) ?_)
 refine CW.s1 rfl (CW.ok [1,3,8,56] rfl (CW.cF rfl ((by rw [hk];rfl)) ?_))
 refine CW.s1 rfl (CW.cF rfl ((by rw [hk];rfl)) ?_)
 refine CW.s1 rfl (CW.cF rfl ((by rw [hk];rfl)) ?_)
 refine CW.s1 rfl (CW.ok [1,3,8,84] rfl (CW.cT rfl ((by rw [hk];rfl)) ?_))
 refine CW.sg [2] [] (RL.fa fa_69_12 rfl (RL.lq isAgg5 rfl ?_))
 refine RL.buildOwn [_] runUnderlying74 sizeOf5 zeroValue5 rfl rfl zc zc rfl zc rfl ?_
 intro b3
 refine RL.pn rfl (CW.ok [2] rfl (CW.rr (RQ.bb ?_)))
 exact RQ.ownB (l:=bodyR r) rfl rfl zj (by unfold bodyR;simp [hk,beN_length,be4_length,be8'_length,keyL]) (by unfold bodyR;simp [hk,keyL]) zq
set_option maxHeartbeats 4000000 in
theorem rbody_10 (r:Rdg) (hk:r.kind=10) (hr:r.Ok):Spc prog 133 #[.agg r.cells.toArray] [] [] (OwnB (bodyR r)):=by
 refine Spc.en func133 rfl rfl (fun w0 hw0=> ?_)
 refine CW.sg [0] [] (RL.box rfl ?_)
 intro b1
 refine RL.pn rfl (CW.ss (CW.freezeAll rfl ?_))
 simp only [List.cons_append,List.nil_append]
 refine CW.rn (ef:= [0]) (bk:= []) (RL.buildOwn [] runUnderlying74 sizeOf5 zeroValue5 rfl rfl zc zc rfl zc rfl ?_)
 intro b2
 refine RL.pn rfl (CW.sr (RL.fa fa_69_0 rfl (RL.lq isAgg3 rfl ?_)))
 refine RL.ns (CW.bb (CW.s1 rfl (CW.cF rfl ((by rw [hk];rfl)) ?_)))
 refine CW.s1 rfl (CW.ok [1,3,8,35] rfl (CW.cF rfl ((by rw [hk];rfl)) ?_))
 refine CW.s1 rfl (CW.cF rfl ((by rw [hk];rfl)) ?_)
 refine CW.s1 rfl (CW.cF rfl ((by rw [hk];rfl)) ?_)
 refine CW.s1 rfl (CW.ok [1,3,8,56] rfl (CW.cF rfl ((by rw [hk];rfl)) ?_))
 refine CW.s1 rfl (CW.cF rfl ((by rw [hk];rfl)) ?_)
 refine CW.s1 rfl (CW.cF rfl ((by rw [hk];rfl)) ?_)
 refine CW.s1 rfl (CW.ok [1,3,8,84] rfl (CW.cF rfl ((by rw [hk];rfl)) ?_))
 refine CW.s1 rfl (CW.cT rfl ((by rw [hk];rfl)) ?_)
 refine CW.sg [3] [] (RL.fa fa_69_13 rfl (RL.lq isAgg61 rfl ?_))
 refine RL.conv runUnderlying61 runUnderlying32 rfl (RL.cq (rnum r.epoch 4 zc) call162 rfl (.inl rfl) ?_)
 rintro _ _ _ ⟨ob1,cap1,rfl,rfl,rfl,ho1⟩
 refine RL.pn rfl (CW.ok [2] rfl (CW.rr (RQ.bb ?_)))
 exact RQ.ownB (l:=bodyR r) rfl rfl zj (by unfold bodyR;simp [hk,beN_length,be4_length,be8'_length,keyL]) (by unfold bodyR;simp [hk,keyL]) zq
set_option maxHeartbeats 4000000 in
theorem rbody_12 (r:Rdg) (hk:r.kind=12) (hr:r.Ok):Spc prog 133 #[.agg r.cells.toArray] [] [] (OwnB (bodyR r)):=by
 refine Spc.en func133 rfl rfl (fun w0 hw0=> ?_)
 refine CW.sg [0] [] (RL.box rfl ?_)
 intro b1
 refine RL.pn rfl (CW.ss (CW.freezeAll rfl ?_))
 simp only [List.cons_append,List.nil_append]
 refine CW.rn (ef:= [0]) (bk:= []) (RL.buildOwn [] runUnderlying74 sizeOf5 zeroValue5 rfl rfl zc zc rfl zc rfl ?_)
 intro b2
 refine RL.pn rfl (CW.sr (RL.fa fa_69_0 rfl (RL.lq isAgg3 rfl ?_)))
 refine RL.ns (CW.bb (CW.s1 rfl (CW.cF rfl ((by rw [hk];rfl)) ?_)))
 refine CW.s1 rfl (CW.ok [1,3,8,35] rfl (CW.cF rfl ((by rw [hk];rfl)) ?_))
 refine CW.s1 rfl (CW.cF rfl ((by rw [hk];rfl)) ?_)
 refine CW.s1 rfl (CW.cF rfl ((by rw [hk];rfl)) ?_)
 refine CW.s1 rfl (CW.ok [1,3,8,56] rfl (CW.cF rfl ((by rw [hk];rfl)) ?_))
 refine CW.s1 rfl (CW.cF rfl ((by rw [hk];rfl)) ?_)
 refine CW.s1 rfl (CW.cF rfl ((by rw [hk];rfl)) ?_)
 refine CW.s1 rfl (CW.ok [1,3,8,84] rfl (CW.cF rfl ((by rw [hk];rfl)) ?_))
 refine CW.s1 rfl (CW.cF rfl ((by rw [hk];rfl)) ?_)
 refine CW.s1 rfl (CW.cT rfl ((by rw [hk];rfl)) ?_)
 refine CW.sg [2] [] (RL.fa fa_69_16 rfl (RL.lq isAgg5 rfl ?_))
 refine RL.buildOwn [_] runUnderlying74 sizeOf5 zeroValue5 rfl rfl zc zc rfl zc rfl ?_
 intro b3
 refine RL.pn rfl (CW.ok [2] rfl (CW.rr (RQ.bb ?_)))
 exact RQ.ownB (l:=bodyR r) rfl rfl zj (by unfold bodyR;simp [hk,beN_length,be4_length,be8'_length,keyL]) (by unfold bodyR;simp [hk,keyL]) zq
set_option maxHeartbeats 4000000 in
theorem rbody_13 (r:Rdg) (hk:r.kind=13) (hr:r.Ok):Spc prog 133 #[.agg r.cells.toArray] [] [] (OwnB (bodyR r)):=by
 refine Spc.en func133 rfl rfl (fun w0 hw0=> ?_)
 refine CW.sg [0] [] (RL.box rfl ?_)
 intro b1
 refine RL.pn rfl (CW.ss (CW.freezeAll rfl ?_))
 simp only [List.cons_append,List.nil_append]
 refine CW.rn (ef:= [0]) (bk:= []) (RL.buildOwn [] runUnderlying74 sizeOf5 zeroValue5 rfl rfl zc zc rfl zc rfl ?_)
 intro b2
 refine RL.pn rfl (CW.sr (RL.fa fa_69_0 rfl (RL.lq isAgg3 rfl ?_)))
 refine RL.ns (CW.bb (CW.s1 rfl (CW.cF rfl ((by rw [hk];rfl)) ?_)))
 refine CW.s1 rfl (CW.ok [1,3,8,35] rfl (CW.cF rfl ((by rw [hk];rfl)) ?_))
 refine CW.s1 rfl (CW.cF rfl ((by rw [hk];rfl)) ?_)
 refine CW.s1 rfl (CW.cF rfl ((by rw [hk];rfl)) ?_)
 refine CW.s1 rfl (CW.ok [1,3,8,56] rfl (CW.cF rfl ((by rw [hk];rfl)) ?_))
 refine CW.s1 rfl (CW.cF rfl ((by rw [hk];rfl)) ?_)
 refine CW.s1 rfl (CW.cF rfl ((by rw [hk];rfl)) ?_)
 refine CW.s1 rfl (CW.ok [1,3,8,84] rfl (CW.cF rfl ((by rw [hk];rfl)) ?_))
 refine CW.s1 rfl (CW.cF rfl ((by rw [hk];rfl)) ?_)
 refine CW.s1 rfl (CW.cF rfl ((by rw [hk];rfl)) ?_)
 refine CW.s1 rfl (CW.ok [1,3,8,100] rfl (CW.cT rfl ((by rw [hk];rfl)) ?_))
 refine CW.ss (CW.rD (.cons 0 (.cons 1 (.cons 3 (.cons 4 (.cons 7 (.cons 8 (.cons 11 (.cons 12 (.cons 13 (.fork [2,5] (fun k=> (bif Nat.beq k 2 then (Sq.of [5,6,9,10,14,15,16]) else (Sq.of [2,6,9,10,14,15,16]))))))))))))) [2,5,6,9,10,14,15] [6,10,15] [0,1,3,4,7,8,11,12,13,16] mixed zi ?_)
 refine RL.fa fa_69_12 rfl (RL.lT isAgg5 rfl ?_)
 refine RL.fa fa_69_9 rfl (RL.loadNT (vs:= [_,_,_]) isAgg27 sizeOf27 rfl rfl zl ?_)
 refine RL.fa fa_69_14 rfl (RL.lT isAgg25 rfl ?_)
 refine RL.fa fa_69_15 rfl (RL.lT isAgg61 rfl ?_)
 refine RL.conv runUnderlying61 runUnderlying32 rfl ?_
 refine RL.fork ⟨?_, ?_,trivial⟩
 ·
  refine RL.buildOwn [_] runUnderlying74 sizeOf5 zeroValue5 rfl rfl zc zc rfl zc rfl ?_
  intro b3
  refine RL.cq (rplace r.p0 r.p1 r.p2) call163 rfl (.inl rfl) ?_
  rintro _ _ _ ⟨ob1,cap1,rfl,rfl,rfl,ho1⟩
  refine RL.appendq el_74 rfl ?_
  intro ob2 cap2 ho2
  refine RL.cq (rsputfix8 r.bound) call161 rfl (.inl rfl) ?_
  rintro _ _ _ ⟨ob3,cap3,rfl,rfl,rfl,ho3⟩
  refine RL.appendq el_74 rfl ?_
  intro ob4 cap4 ho4
  refine RL.cq (rnum r.flags 4 zc) call162 rfl (.inl rfl) ?_
  rintro _ _ _ ⟨ob5,cap5,rfl,rfl,rfl,ho5⟩
  refine RL.appendq el_74 rfl ?_
  intro ob6 cap6 ho6
  refine RL.pn rfl (CW.ok [2] rfl (CW.rr (RQ.bb ?_)))
  exact RQ.ownB (l:=bodyR r) rfl rfl zj (by unfold bodyR;simp [hk,beN_length,be4_length,be8'_length,keyL]) (by unfold bodyR;simp [hk,keyL]) zq
 ·
  refine RL.cq (rplace r.p0 r.p1 r.p2) call163 rfl (.inl rfl) ?_
  rintro _ _ _ ⟨ob1,cap1,rfl,rfl,rfl,ho1⟩
  refine RL.buildOwn [_] runUnderlying74 sizeOf5 zeroValue5 rfl rfl zc zc rfl zc rfl ?_
  intro b3
  refine RL.appendq el_74 rfl ?_
  intro ob2 cap2 ho2
  refine RL.cq (rsputfix8 r.bound) call161 rfl (.inl rfl) ?_
  rintro _ _ _ ⟨ob3,cap3,rfl,rfl,rfl,ho3⟩
  refine RL.appendq el_74 rfl ?_
  intro ob4 cap4 ho4
  refine RL.cq (rnum r.flags 4 zc) call162 rfl (.inl rfl) ?_
  rintro _ _ _ ⟨ob5,cap5,rfl,rfl,rfl,ho5⟩
  refine RL.appendq el_74 rfl ?_
  intro ob6 cap6 ho6
  refine RL.pn rfl (CW.ok [2] rfl (CW.rr (RQ.bb ?_)))
  exact RQ.ownB (l:=bodyR r) rfl rfl zj (by unfold bodyR;simp [hk,beN_length,be4_length,be8'_length,keyL]) (by unfold bodyR;simp [hk,keyL]) zq
set_option maxHeartbeats 4000000 in
theorem rbody_14 (r:Rdg) (hk:r.kind=14) (hr:r.Ok):Spc prog 133 #[.agg r.cells.toArray] [] [] (OwnB (bodyR r)):=by
 refine Spc.en func133 rfl rfl (fun w0 hw0=> ?_)
 refine CW.sg [0] [] (RL.box rfl ?_)
 intro b1
 refine RL.pn rfl (CW.ss (CW.freezeAll rfl ?_))
 simp only [List.cons_append,List.nil_append]
 refine CW.rn (ef:= [0]) (bk:= []) (RL.buildOwn [] runUnderlying74 sizeOf5 zeroValue5 rfl rfl zc zc rfl zc rfl ?_)
 intro b2
 refine RL.pn rfl (CW.sr (RL.fa fa_69_0 rfl (RL.lq isAgg3 rfl ?_)))
 refine RL.ns (CW.bb (CW.s1 rfl (CW.cF rfl ((by rw [hk];rfl)) ?_)))
 refine CW.s1 rfl (CW.ok [1,3,8,35] rfl (CW.cF rfl ((by rw [hk];rfl)) ?_))
 refine CW.s1 rfl (CW.cF rfl ((by rw [hk];rfl)) ?_)
 refine CW.s1 rfl (CW.cF rfl ((by rw [hk];rfl)) ?_)
 refine CW.s1 rfl (CW.ok [1,3,8,56] rfl (CW.cF rfl ((by rw [hk];rfl)) ?_))
 refine CW.s1 rfl (CW.cF rfl ((by rw [hk];rfl)) ?_)
 refine CW.s1 rfl (CW.cF rfl ((by rw [hk];rfl)) ?_)
 refine CW.s1 rfl (CW.ok [1,3,8,84] rfl (CW.cF rfl ((by rw [hk];rfl)) ?_))
 refine CW.s1 rfl (CW.cF rfl ((by rw [hk];rfl)) ?_)
 refine CW.s1 rfl (CW.cF rfl ((by rw [hk];rfl)) ?_)
 refine CW.s1 rfl (CW.ok [1,3,8,100] rfl (CW.cF rfl ((by rw [hk];rfl)) ?_))
 refine CW.s1 rfl (CW.cT rfl ((by rw [hk];rfl)) ?_)
 refine CW.ss (CW.rD (.cons 0 (.cons 1 (.cons 2 (.cons 3 (.cons 5 (.cons 6 (.cons 7 (.cons 10 (.cons 11 (.cons 14 (.cons 15 (.cons 16 (.fork [4,8] (fun k=> (bif Nat.beq k 4 then (Sq.of [8,9,12,13,17,18,19]) else (Sq.of [4,9,12,13,17,18,19])))))))))))))))) [4,8,9,12,13,17,18] [9,13,18] [0,1,2,3,5,6,7,10,11,14,15,16,19] mixed zi ?_)
 refine RL.fa fa_69_16 rfl (RL.lT isAgg5 rfl ?_)
 refine RL.fa fa_69_17 rfl (RL.lT isAgg5 rfl ?_)
 refine RL.fa fa_69_18 rfl (RL.lT isAgg67 rfl ?_)
 refine RL.conv runUnderlying67 runUnderlying32 rfl (RL.fa fa_69_19 rfl (RL.lT isAgg32 rfl ?_))
 refine RL.fa fa_69_13 rfl (RL.lT isAgg61 rfl ?_)
 refine RL.conv runUnderlying61 runUnderlying32 rfl ?_
 refine RL.fork ⟨?_, ?_,trivial⟩
 ·
  refine RL.buildOwn [_,_] runUnderlying74 sizeOf5 zeroValue5 rfl rfl zc zc rfl zc rfl ?_
  intro b3
  refine RL.cq (rnum r.fails 2 zc) call162 rfl (.inl rfl) ?_
  rintro _ _ _ ⟨ob1,cap1,rfl,rfl,rfl,ho1⟩
  refine RL.appendq el_74 rfl ?_
  intro ob2 cap2 ho2
  refine RL.cq (rnumT r.counter hr.counter 8 zc) call162 rfl (.inl rfl) ?_
  rintro _ _ _ ⟨ob3,cap3,rfl,rfl,rfl,ho3⟩
  refine RL.appendq el_74 rfl ?_
  intro ob4 cap4 ho4
  refine RL.cq (rnum r.epoch 4 zc) call162 rfl (.inl rfl) ?_
  rintro _ _ _ ⟨ob5,cap5,rfl,rfl,rfl,ho5⟩
  refine RL.appendq el_74 rfl ?_
  intro ob6 cap6 ho6
  refine RL.pn rfl (CW.ok [2] rfl (CW.rr (RQ.bb ?_)))
  exact RQ.ownB (l:=bodyR r) rfl rfl zj (by unfold bodyR;simp [hk,beN_length,be4_length,be8'_length,keyL]) (by unfold bodyR;simp [hk,keyL]) zq
 ·
  refine RL.cq (rnum r.fails 2 zc) call162 rfl (.inl rfl) ?_
  rintro _ _ _ ⟨ob1,cap1,rfl,rfl,rfl,ho1⟩
  refine RL.buildOwn [_,_] runUnderlying74 sizeOf5 zeroValue5 rfl rfl zc zc rfl zc rfl ?_
  intro b3
  refine RL.appendq el_74 rfl ?_
  intro ob2 cap2 ho2
  refine RL.cq (rnumT r.counter hr.counter 8 zc) call162 rfl (.inl rfl) ?_
  rintro _ _ _ ⟨ob3,cap3,rfl,rfl,rfl,ho3⟩
  refine RL.appendq el_74 rfl ?_
  intro ob4 cap4 ho4
  refine RL.cq (rnum r.epoch 4 zc) call162 rfl (.inl rfl) ?_
  rintro _ _ _ ⟨ob5,cap5,rfl,rfl,rfl,ho5⟩
  refine RL.appendq el_74 rfl ?_
  intro ob6 cap6 ho6
  refine RL.pn rfl (CW.ok [2] rfl (CW.rr (RQ.bb ?_)))
  exact RQ.ownB (l:=bodyR r) rfl rfl zj (by unfold bodyR;simp [hk,beN_length,be4_length,be8'_length,keyL]) (by unfold bodyR;simp [hk,keyL]) zq
theorem rbody_none (r:Rdg) (hk:r.kind≠1∧r.kind≠2∧r.kind≠3∧r.kind≠4∧r.kind≠5∧r.kind≠6∧r.kind≠7∧r.kind≠8∧r.kind≠10∧r.kind≠12∧r.kind≠13∧r.kind≠14):Spc prog 133 #[.agg r.cells.toArray] [] [] (OwnB (bodyR r)):=by
 refine Spc.en func133 rfl rfl (fun w0 hw0=> ?_)
 refine CW.sg [0] [] (RL.box rfl ?_)
 intro b1
 refine RL.pn rfl (CW.sg [0] [] (RL.buildOwn [] runUnderlying74 sizeOf5 zeroValue5 rfl rfl zc zc rfl zc rfl ?_))
 intro b2
 refine RL.pn rfl (CW.sr (RL.fa fa_69_0 rfl (RL.lq isAgg3 rfl ?_)))
 refine RL.ns (CW.bb (CW.s1 rfl (CW.cF rfl ((by simp [hk])) ?_)))
 refine CW.s1 rfl (CW.ok [1,3,8,35] rfl (CW.cF rfl ((by simp [hk])) ?_))
 refine CW.s1 rfl (CW.cF rfl ((by simp [hk])) ?_)
 refine CW.s1 rfl (CW.cF rfl ((by simp [hk])) ?_)
 refine CW.s1 rfl (CW.ok [1,3,8,56] rfl (CW.cF rfl ((by simp [hk])) ?_))
 refine CW.s1 rfl (CW.cF rfl ((by simp [hk])) ?_)
 refine CW.s1 rfl (CW.cF rfl ((by simp [hk])) ?_)
 refine CW.s1 rfl (CW.ok [1,3,8,84] rfl (CW.cF rfl ((by simp [hk])) ?_))
 refine CW.s1 rfl (CW.cF rfl ((by simp [hk])) ?_)
 refine CW.s1 rfl (CW.cF rfl ((by simp [hk])) ?_)
 refine CW.s1 rfl (CW.ok [1,3,8,100] rfl (CW.cF rfl ((by simp [hk])) ?_))
 refine CW.s1 rfl (CW.cF rfl ((by simp [hk])) ?_)
 refine CW.s1 rfl (CW.ok [2] rfl (CW.rr (RQ.bb ?_)))
 exact RQ.ownB (l:=bodyR r) rfl rfl (.keep (Split.nn _)) (by unfold bodyR;simp [hk]) (by unfold bodyR;simp [hk]) (by first | assumption | (left;rfl))
end Go.Proofs.YtkineolcmdecjaaGreat
namespace Go.Proofs.YtkineolcmdecjaaGreat
open Go.PK
open Tryz
attribute [local irreducible] be8' be4 beN
def sel3 (a b c:Int) (i:Nat):Int:=if i=0 then a else if i=1 then b else c
theorem sel3_take (a b c:Int) {i:Nat} (h:i < 3): [a,b,c].take (i+1)= [a,b,c].take i++ [sel3 a b c i]:=by
 match i,h with
 | 0,_=> rfl
 | 1,_=> rfl
 | 2,_=> rfl
theorem sel3_get (a b c:Int) {cs:List Value} {o:Nat} (h0:cs[o]? =some (.int .i32 a)) (h1:cs[o+1]? =some (.int .i32 b)) (h2:cs[o+2]? =some (.int .i32 c)) {i:Nat} (h:i < 3):cs[o+i*1]? =some (.int .i32 (sel3 a b c i)):=by
 match i,h with
 | 0,_=> exact h0
 | 1,_=> exact h1
 | 2,_=> exact h2
set_option maxHeartbeats 4000000 in
theorem rbody_1 (r:Rdg) (hk:r.kind=1) (hr:r.Ok):Spc prog 133 #[.agg r.cells.toArray] [] [] (OwnB (bodyR r)):=by
 refine Spc.en func133 rfl rfl (fun w0 hw0=> ?_)
 refine CW.sg [0] [] (RL.box rfl ?_)
 intro b1
 refine RL.pn rfl (CW.ss (CW.freezeAll rfl ?_))
 simp only [List.cons_append,List.nil_append]
 refine CW.rn (ef:= [0]) (bk:= []) (RL.buildOwn [] runUnderlying74 sizeOf5 zeroValue5 rfl rfl zc zc rfl zc rfl ?_)
 intro b2
 refine RL.pn rfl (CW.sr (RL.fa fa_69_0 rfl (RL.lq isAgg3 rfl ?_)))
 refine RL.ns (CW.bb (CW.s1 rfl (CW.cT rfl ((by rw [hk];rfl)) ?_)))
 refine CW.ss (CW.sr (RL.pn rfl (CW.ok [1,2,3,4] rfl (CW.bb ?_))))
 refine CW.loop (γ:=Nat×Option Nat×Nat) (fun g=> g.1≤3∧(0+g.1=0∨g.2.1.isSome=true)) (fun g=> [(1, .pointer (some ⟨b1,0,none⟩)),(3,slO g.2.1 (0+4*g.1) g.2.2),(4, .int .i64 (g.1:Int))]) (fun _=> [cel b1 r.cells 69])
  (fun g=> [own g.2.1 g.2.2 5 1 (0+4*g.1) (bytes ([]++([r.g0,r.g1,r.g2].take g.1).flatMap be4))]) (fun g=> 3 - g.1) (0,some b2,0) ⟨zm,by simp [true]⟩
  sE (fun w h=> by simpa using h) ?_
 rintro ⟨i,ob',c'⟩ ⟨hi,ho⟩
 dsimp only at hi ho ⊢
 refine CW.ss (CW.s1 rfl ?_)
 refine CW.cd rfl (fun hlt=> ?_) (fun hlt=> ?_)
 ·
  refine CW.sn (CW.ss (CW.bb (CW.rn (ef:= [5,6]) (bk:= [6]) (RL.q rfl (RL.fa fa_69_1 rfl ?_)))))
  have hlt:i < 3:=by simp at hlt;omega
  refine RL.iA (j:=i) runUnderlying66 sizeOf65 rfl hlt (RL.load isAgg65 rfl (Rd.getI mQ (sel3_get r.g0 r.g1 r.g2 (o:=0+1) rfl rfl rfl hlt)) ?_)
  refine RL.cq (rput4 (sel3 r.g0 r.g1 r.g2 i)) call160 rfl (.inl rfl) ?_
  rintro _ _ _ ⟨ob1,cap1,rfl,rfl,rfl,ho1⟩
  refine RL.appendq el_74 rfl ?_
  intro ob2 cap2 ho2
  refine RL.p rfl (RL.ee (NQ.bb (NQ.ss (CW.ok [1,3,4] rfl (CW.rg (RL.p rfl (RL.bx rfl (wrapV_i64 zb zb) ?_)))))))
  refine RL.p rfl (RL.ee ?_)
  refine NQ.rr (g:=(i,ob',c')) (i+1,ob2,cap2) ⟨hlt,ho2.elim (fun h=> by omega) .inr⟩ (by show 3 - (i+1) < 3 - i;omega) (.cons rfl (.cons (by rw [show 0+4*(i+1)=0+4*i+4 by omega];rfl) sE)) (fun w h=> ?_)
  rw [own_is (n':=0+4*(i+1)) (xs':=bytes ([]++([r.g0,r.g1,r.g2].take (i+1)).flatMap be4)) zb (by rw [sel3_take _ _ _ hlt,List.flatMap_append];simp)] at h
  exact h.rea (fun _ h=> h) rE
 ·
  refine CW.xx (XQ.ss (XQ.ss (XQ.hh (NQ.ss (CW.ss (CW.sr (RL.pn rfl (CW.bb ?_))))))))
  have hi3:i=3:=by simp at hlt;omega
  subst hi3
  refine CW.loop (γ:=Nat×Option Nat×Nat) (fun g=> g.1≤3∧(12+g.1=0∨g.2.1.isSome=true)) (fun g=> [(1, .pointer (some ⟨b1,0,none⟩)),(3,slO g.2.1 (12+4*g.1) g.2.2),(5, .int .i64 (g.1:Int))]) (fun _=> [cel b1 r.cells 69])
   (fun g=> [own g.2.1 g.2.2 5 1 (12+4*g.1) (bytes ([r.g0,r.g1,r.g2].flatMap be4++([r.a0,r.a1,r.a2].take g.1).flatMap be4))]) (fun g=> 3 - g.1) (0,ob',c') ⟨zm,by simp [show ob'.isSome=true from ho.elim (fun h=> by omega) id]⟩
   sE (fun w h=> by simpa [be4_length] using h) ?_
  rintro ⟨i,ob',c'⟩ ⟨hi,ho⟩
  dsimp only at hi ho ⊢
  refine CW.ss (CW.s1 rfl ?_)
  refine CW.cd rfl (fun hlt=> ?_) (fun hlt=> ?_)
  ·
   refine CW.sn (CW.ss (CW.bb (CW.rn (ef:= [5,6]) (bk:= [6]) (RL.q rfl (RL.fa fa_69_2 rfl ?_)))))
   have hlt:i < 3:=by simp at hlt;omega
   refine RL.iA (j:=i) runUnderlying66 sizeOf65 rfl hlt (RL.load isAgg65 rfl (Rd.getI mQ (sel3_get r.a0 r.a1 r.a2 (o:=0+4) rfl rfl rfl hlt)) ?_)
   refine RL.cq (rput4 (sel3 r.a0 r.a1 r.a2 i)) call160 rfl (.inl rfl) ?_
   rintro _ _ _ ⟨ob1,cap1,rfl,rfl,rfl,ho1⟩
   refine RL.appendq el_74 rfl ?_
   intro ob2 cap2 ho2
   refine RL.p rfl (RL.ee (NQ.bb (NQ.ss (CW.ok [1,3,5] rfl (CW.rg (RL.p rfl (RL.bx rfl (wrapV_i64 zb zb) ?_)))))))
   refine RL.p rfl (RL.ee ?_)
   refine NQ.rr (g:=(i,ob',c')) (i+1,ob2,cap2) ⟨hlt,ho2.elim (fun h=> by omega) .inr⟩ (by show 3 - (i+1) < 3 - i;omega) (.cons rfl (.cons (by rw [show 12+4*(i+1)=12+4*i+4 by omega];rfl) sE)) (fun w h=> ?_)
   rw [own_is (n':=12+4*(i+1)) (xs':=bytes ([r.g0,r.g1,r.g2].flatMap be4++([r.a0,r.a1,r.a2].take (i+1)).flatMap be4)) zb (by rw [sel3_take _ _ _ hlt,List.flatMap_append];simp)] at h
   exact h.rea (fun _ h=> h) rE
  ·
   refine CW.xx (XQ.ss (XQ.ss (XQ.hh (NQ.ss (CW.s1 rfl (CW.ok [2] rfl (CW.rr (RQ.bb ?_))))))))
   have hi3:i=3:=by simp at hlt;omega
   subst hi3
   exact RQ.ownB (l:=bodyR r) rfl rfl (.keep (Split.nn _)) (by unfold bodyR;simp [hk,be4_length]) (by unfold bodyR;simp [hk]) (ho.elim (fun h=> by omega) .inr)
end Go.Proofs.YtkineolcmdecjaaGreat
namespace Go.Proofs.YtkineolcmdecjaaGreat
open Go.PK
open Tryz
theorem rbody_any (r:Rdg) (hr:r.Ok):Spc prog 133 #[.agg r.cells.toArray] [] [] (OwnB (bodyR r)):=by
 by_cases h1:r.kind=1
 ·exact rbody_1 r h1 hr
 by_cases h2:r.kind=2
 ·exact rbody_2 r h2 hr
 by_cases h3:r.kind=3
 ·exact rbody_3 r h3 hr
 by_cases h4:r.kind=4
 ·exact rbody_4 r h4 hr
 by_cases h5:r.kind=5
 ·exact rbody_5 r h5 hr
 by_cases h6:r.kind=6
 ·exact rbody_6 r h6 hr
 by_cases h7:r.kind=7
 ·exact rbody_7 r h7 hr
 by_cases h8:r.kind=8
 ·exact rbody_8 r h8 hr
 by_cases h10:r.kind=10
 ·exact rbody_10 r h10 hr
 by_cases h12:r.kind=12
 ·exact rbody_12 r h12 hr
 by_cases h13:r.kind=13
 ·exact rbody_13 r h13 hr
 by_cases h14:r.kind=14
 ·exact rbody_14 r h14 hr
 exact rbody_none r ⟨h1,h2,h3,h4,h5,h6,h7,h8,h10,h12,h13,h14⟩
theorem rput_bad (r:Rdg) (hk: ¬(1≤r.kind∧r.kind≤14)):Spc prog 89 #[.agg r.cells.toArray] [] [] (PutR r):=by
 have hs:sizeV r.kind= .tuple #[.int .i64 0, .int .i64 120]:=by rw [sizeV,if_neg hk]
 obtain ⟨e1,e2⟩:=put_no (not_okP hk)
 refine Spc.en func89 rfl rfl (fun w0 hw0=> ?_)
 refine CW.sg [0] [] (RL.box rfl ?_)
 intro b1
 refine RL.qn rfl (CW.ss (CW.sr (RL.fa fa_69_0 rfl (RL.lq isAgg3 rfl ?_))))
 refine RL.vq (rsize_any r.kind) call132 rfl ?_
 refine RL.p rfl ?_
 rw [hs]
 refine RL.q rfl (RL.qn rfl (CW.ok [1,2,3,5] rfl (CW.s1 rfl (CW.cT rfl (rfl) ?_))))
 refine CW.sr (RL.p rfl (RL.qn rfl (CW.rr (RQ.ss (RQ.ownNone (e:=5) 1 ?_)))))
 unfold PutR
 rw [e1,e2]
 exact RQ.pp (res2 rfl rfl rfl) (.keep (Split.nn _)) ⟨none,0,rfl,rfl,rfl⟩
theorem rput_none (r:Rdg) (hr:r.Ok) (hk:1≤r.kind∧r.kind≤14) (hg:gotR r.kind (bodyR r)=none):Spc prog 89 #[.agg r.cells.toArray] [] [] (PutR r):=by
 have hs:sizeV r.kind= .tuple #[.int .i64 (sizeR r.kind:Int), .int .i64 0]:=by rw [sizeV,if_pos hk]
 have hbl:=bodyR_len r
 have hno: ¬okP r:=by
  rintro ⟨x,hx, -⟩
  rw [hg] at hx
  cases hx
 obtain ⟨e1,e2⟩:=put_no hno
 refine Spc.en func89 rfl rfl (fun w0 hw0=> ?_)
 refine CW.sg [0] [] (RL.box rfl ?_)
 intro b1
 refine RL.qn rfl (CW.ss (CW.sr (RL.fa fa_69_0 rfl (RL.lq isAgg3 rfl ?_))))
 refine RL.vq (rsize_any r.kind) call132 rfl ?_
 refine RL.p rfl ?_
 rw [hs]
 refine RL.q rfl (RL.qn rfl (CW.ok [1,2,3,5] rfl (CW.s1 rfl (CW.cF rfl (rfl) ?_))))
 refine CW.sn (CW.sg [1] [] (RL.lW isAgg69 sizeOf69 rfl mQ zf ?_))
 refine RL.cq (rbody_any r hr) call133 rfl (.inl rfl) ?_
 rintro _ _ _ ⟨ob1,cap1,rfl,rfl,rfl,ho1⟩
 refine RL.pn rfl (CW.ok [1,6] rfl (CW.sg [7,8] [8] (RL.fa fa_69_0 rfl (RL.lq isAgg3 rfl ?_))))
 refine RL.p rfl (RL.vv (rgot_any r.kind (ob1.map fun b=> ⟨b,0,none⟩) (bodyR r).length cap1 (bodyR r) rfl zb) call134 rfl (Lend.own mQ .nil) ?_)
 refine RL.p rfl ?_
 rw [hg]
 unfold gotV
 refine RL.q rfl (RL.al zeroValue69 rfl ?_)
 intro b2
 refine RL.sq sizeOf69 rfl ?_
 refine RL.pn rfl (CW.ok [1,6,7,8] rfl (CW.ss (CW.sr (RL.q rfl (RL.p rfl (RL.tt (d:=29) (v':= .bool true) rfl (rfl) ?_))))))
 refine RL.q rfl (RL.qn rfl (CW.ok [6,33] rfl (CW.cT rfl rfl (CW.s1 rfl ?_))))
 refine CW.rr (RQ.ss (RQ.ownNone (e:=5) 1 ?_))
 unfold PutR
 rw [e1,e2]
 exact RQ.pp (res2 rfl rfl rfl) (.keep (Split.nn _)) ⟨none,0,rfl,rfl,rfl⟩
theorem rput_some (r x:Rdg) (hr:r.Ok) (hk:1≤r.kind∧r.kind≤14) (hg:gotR r.kind (bodyR r)=some x):Spc prog 89 #[.agg r.cells.toArray] [] [] (PutR r):=by
 have hs:sizeV r.kind= .tuple #[.int .i64 (sizeR r.kind:Int), .int .i64 0]:=by rw [sizeV,if_pos hk]
 have hbl:=bodyR_len r
 have hx:=got_ok hr.kind hg
 have hok:okP r↔x.cells=r.cells:=⟨fun ⟨y,h1,h2⟩=> by rw [hg] at h1;cases h1;exact h2,fun h=> ⟨x,hg,h⟩⟩
 refine Spc.en func89 rfl rfl (fun w0 hw0=> ?_)
 refine CW.sg [0] [] (RL.box rfl ?_)
 intro b1
 refine RL.qn rfl (CW.ss (CW.sr (RL.fa fa_69_0 rfl (RL.lq isAgg3 rfl ?_))))
 refine RL.vq (rsize_any r.kind) call132 rfl ?_
 refine RL.p rfl ?_
 rw [hs]
 refine RL.q rfl (RL.qn rfl (CW.ok [1,2,3,5] rfl (CW.s1 rfl (CW.cF rfl (rfl) ?_))))
 refine CW.sn (CW.sg [1] [] (RL.lW isAgg69 sizeOf69 rfl mQ zf ?_))
 refine RL.cq (rbody_any r hr) call133 rfl (.inl rfl) ?_
 rintro _ _ _ ⟨ob1,cap1,rfl,rfl,rfl,ho1⟩
 refine RL.pn rfl (CW.ok [1,6] rfl (CW.sg [7,8] [8] (RL.fa fa_69_0 rfl (RL.lq isAgg3 rfl ?_))))
 refine RL.p rfl (RL.vv (rgot_any r.kind (ob1.map fun b=> ⟨b,0,none⟩) (bodyR r).length cap1 (bodyR r) rfl zb) call134 rfl (Lend.own mQ .nil) ?_)
 refine RL.p rfl ?_
 rw [hg]
 unfold gotV
 refine RL.q rfl (RL.al zeroValue69 rfl ?_)
 intro b2
 refine RL.sq sizeOf69 rfl ?_
 refine RL.pn rfl (CW.ok [1,6,7,8] rfl (CW.ss (CW.sr (RL.q rfl (RL.p rfl (RL.tt (d:=29) (v':= .bool false) rfl (rfl) ?_))))))
 refine RL.lW isAgg69 sizeOf69 rfl mQ zf ?_
 refine RL.lW isAgg69 sizeOf69 rfl mQ zf ?_
 obtain ⟨c,hc⟩:∃c:Bool,c=true↔x.cells=r.cells:=⟨@decide _ (Classical.propDecidable (x.cells=r.cells)),zm⟩
 refine RL.cmp rfl (neq_rdg (r:=c) hx hr hc _ _) (RL.pn rfl (CW.ok [6,33] rfl ?_))
 refine CW.cd rfl (fun hne=> ?_) (fun hne=> ?_)
 ·
  refine CW.s1 rfl (CW.rr (RQ.ss ?_))
  have hno: ¬okP r:=by
   rw [hok,←hc]
   intro e
   rw [e] at hne
   cases hne
  obtain ⟨e1,e2⟩:=put_no hno
  refine RQ.ownNone (e:=5) 1 ?_
  unfold PutR
  rw [e1,e2]
  exact RQ.pp (res2 rfl rfl rfl) (.keep (Split.nn _)) ⟨none,0,rfl,rfl,rfl⟩
 ·
  refine CW.sn (CW.sr (RL.p rfl (RL.qn rfl (CW.rr ?_))))
  have hyes:okP r:=by
   rw [hok,←hc]
   cases c with
   | true=> rfl
   | false=> cases hne
  obtain ⟨e1,e2⟩:=put_yes hyes
  unfold PutR
  rw [e1,e2]
  exact RQ.pp (res2 rfl rfl rfl) (.drop (.keep (Split.nn _))) ⟨ob1,cap1,rfl,rfl,rfl⟩
theorem rput_any (r:Rdg) (hr:r.Ok):Spc prog 89 #[.agg r.cells.toArray] [] [] (PutR r):=by
 by_cases hk:1≤r.kind∧r.kind≤14
 ·cases hg:gotR r.kind (bodyR r) with
  | none=> exact rput_none r hr hk hg
  | some x=> exact rput_some r x hr hk hg
 ·exact rput_bad r hk
end Go.Proofs.YtkineolcmdecjaaGreat
