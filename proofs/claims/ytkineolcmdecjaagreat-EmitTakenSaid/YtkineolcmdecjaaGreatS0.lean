import Derived.Test.YtkineolcmdecjaaGreatBA
namespace Go.Proofs.YtkineolcmdecjaaGreat
open Go.PK
open Tryz
structure Sch where
 st:Int
 ln:Int
 lg:Int
 of:Int
def Sch.cells (s:Sch):List Value:= [.int .i64 s.st, .int .i64 s.ln, .int .i64 s.lg, .int .i64 s.of]
def Sch.Ok (s:Sch):Prop:=0≤s.st∧s.st≤1099511627776∧1≤s.ln∧s.ln≤65535∧1≤s.lg∧s.lg≤16∧0≤s.of∧s.of≤65535
instance (s:Sch):Decidable s.Ok:=inferInstanceAs (Decidable (_∧_))
def Sch.e (s:Sch):Int:=if s.Ok then 0 else 2
def tickB (t:Int):Bool:=decide (0≤t∧t≤1099511627776)
theorem eqs_sch (a b c d e f g h:Int) (x y:Operand) (w:World):(do eqGuard .eql 29 x y (.agg #[.int .i64 a, .int .i64 b, .int .i64 c, .int .i64 d]) (.agg #[.int .i64 e, .int .i64 f, .int .i64 g, .int .i64 h]);binOp .eql 29 (.agg #[.int .i64 a, .int .i64 b, .int .i64 c, .int .i64 d]) (.agg #[.int .i64 e, .int .i64 f, .int .i64 g, .int .i64 h]):Sem Value).run prog w= .ok (.bool (a==e && b==f && c==g && d==h)) w:=by
 simp [run_eqGuard_agg,run_eql_struct,run_equalIn_struct,Program.fieldsOf,Op.eqFields,Go.part,go_sem]
 by_cases h1:a=e <;> by_cases h2:b=f <;> by_cases h3:c=g <;> by_cases h4:d=h <;> simp [h1,h2,h3,h4]
theorem stick (t:Int):Spc prog 103 #[.int .i64 t] [] [] (Is (.bool (tickB t))):=by
 refine Spc.en func103 rfl rfl (fun w0 hw0=> ?_)
 refine CW.sr (RL.pn rfl (CW.sr (RL.q rfl (RL.p rfl ?_))))
 apply RL.andB (d:=5) (dp:=8) (l':=(Sq.of [6])) rfl (sK [2] rfl)
 ·
  intro hb3 K3
  refine RL.q rfl (RL.p rfl ?_)
  exact K3 _ (.cons rfl (sK [2] rfl))
 ·
  intro hb3 K3
  refine RL.q rfl (RL.p rfl ?_)
  exact K3 _ (.cons rfl (sK [2] rfl))
 refine RL.pn rfl (CW.rr ?_)
 refine RQ.pp (res1 rfl rfl) (Split.nn _) ⟨?_,rfl,rfl⟩
 congr 1
 rw [Bool.eq_iff_iff];simp [tickB]
theorem rtick (t:Int):Spc prog 131 #[.int .i64 t] [] [] (Is (.bool (tickB t))):=by
 refine Spc.en func131 rfl rfl (fun w0 hw0=> ?_)
 refine CW.sr (RL.pn rfl (CW.sr (RL.q rfl (RL.p rfl ?_))))
 apply RL.andB (d:=5) (dp:=8) (l':=(Sq.of [6])) rfl (sK [2] rfl)
 ·
  intro hb3 K3
  refine RL.q rfl (RL.p rfl ?_)
  exact K3 _ (.cons rfl (sK [2] rfl))
 ·
  intro hb3 K3
  refine RL.q rfl (RL.p rfl ?_)
  exact K3 _ (.cons rfl (sK [2] rfl))
 refine RL.pn rfl (CW.rr ?_)
 refine RQ.pp (res1 rfl rfl) (Split.nn _) ⟨?_,rfl,rfl⟩
 congr 1
 rw [Bool.eq_iff_iff];simp [tickB]
theorem scheck (s:Sch):Spc prog 73 #[.agg #[.int .i64 s.st, .int .i64 s.ln, .int .i64 s.lg, .int .i64 s.of]] [] [] (Is (.int .i64 s.e)):=by
 refine Spc.en func73 rfl rfl (fun w0 hw0=> ?_)
 refine CW.sg [0] [] (RL.box rfl ?_)
 intro b1
 refine RL.pn rfl (CW.ss (CW.bb (CW.sr (RL.ld (vs:= [_,_,_,_]) isAgg29 sizeOf29 rfl zh ?_))))
 refine RL.bS _ zeroValue29 pl_29 rfl (RL.cmp rfl (eqs_sch _ _ _ _ _ _ _ _ _ _) (RL.pn rfl ?_))
 refine CW.cd rfl (fun h1=> ?_) (fun h1=> ?_)
 ·
  refine CW.sr (RL.pn rfl (CW.ok [2] rfl (CW.rr (RQ.bb (RQ.ss ?_)))))
  refine RQ.pp (res1 rfl rfl) (Split.nn _) ⟨?_,rfl,rfl⟩
  have: ¬s.Ok:=by simp at h1;unfold Sch.Ok;omega
  rw [Sch.e,if_neg this]
 ·
  refine CW.sr (RL.fa fa_29_0 rfl (RL.lq isAgg3 rfl ?_))
  refine RL.vq (stick s.st) call103 rfl ?_
  refine RL.q rfl ?_
  apply RL.orB (d:=12) (dp:=16) (l':=(Sq.of [9,10,11,12,13,14])) rfl (sK [1,2] rfl)
  ·
   intro hb5 K5
   refine RL.fa fa_29_1 rfl (RL.lq isAgg3 rfl ?_)
   refine RL.q rfl ?_
   exact K5 _ (.cons rfl (sK [1,2] rfl))
  ·
   intro hb5 K5
   refine RL.q rfl (RL.q rfl ?_)
   exact K5 _ (.cons rfl (sK [1,2] rfl))
  refine RL.p rfl ?_
  apply RL.orB (d:=17) (dp:=21) (l':=(Sq.of [14])) rfl (sK [1,2] rfl)
  ·
   intro hb10 K10
   refine RL.fa fa_29_1 rfl (RL.lq isAgg3 rfl ?_)
   refine RL.q rfl ?_
   exact K10 _ (.cons rfl (sK [1,2] rfl))
  ·
   intro hb10 K10
   refine RL.q rfl (RL.q rfl ?_)
   exact K10 _ (.cons rfl (sK [1,2] rfl))
  refine RL.pn rfl ?_
  refine CW.cd rfl (fun h2=> ?_) (fun h2=> ?_)
  ·
   refine CW.sr (RL.pn rfl (CW.rr (RQ.bb (RQ.ss ?_))))
   refine RQ.pp (res1 rfl rfl) (Split.nn _) ⟨?_,rfl,rfl⟩
   have: ¬s.Ok:=by simp [tickB] at h2;unfold Sch.Ok;omega
   rw [Sch.e,if_neg this]
  ·
   refine CW.sr (RL.fa fa_29_2 rfl (RL.lq isAgg3 rfl ?_))
   refine RL.q rfl ?_
   apply RL.orB (d:=26) (dp:=30) (l':=(Sq.of (rg 8 18))) rfl (sK [1,2] rfl)
   ·
    intro hb4 K4
    refine RL.fa fa_29_2 rfl (RL.lq isAgg3 rfl ?_)
    refine RL.q rfl ?_
    exact K4 _ (.cons rfl (sK [1,2] rfl))
   ·
    intro hb4 K4
    refine RL.q rfl (RL.q rfl ?_)
    exact K4 _ (.cons rfl (sK [1,2] rfl))
   refine RL.p rfl ?_
   apply RL.orB (d:=31) (dp:=35) (l':=(Sq.of [13,14,15,16,17,18])) rfl (sK [1,2] rfl)
   ·
    intro hb9 K9
    refine RL.fa fa_29_3 rfl (RL.lq isAgg3 rfl ?_)
    refine RL.q rfl ?_
    exact K9 _ (.cons rfl (sK [1,2] rfl))
   ·
    intro hb9 K9
    refine RL.q rfl (RL.q rfl ?_)
    exact K9 _ (.cons rfl (sK [1,2] rfl))
   refine RL.p rfl ?_
   apply RL.orB (d:=36) (dp:=40) (l':=(Sq.of [18])) rfl (sK [2] rfl)
   ·
    intro hb14 K14
    refine RL.fa fa_29_3 rfl (RL.lq isAgg3 rfl ?_)
    refine RL.q rfl ?_
    exact K14 _ (.cons rfl (sK [2] rfl))
   ·
    intro hb14 K14
    refine RL.q rfl (RL.q rfl ?_)
    exact K14 _ (.cons rfl (sK [2] rfl))
   refine RL.pn rfl ?_
   refine CW.cd rfl (fun h3=> ?_) (fun h3=> ?_)
   ·
    refine CW.sr (RL.pn rfl (CW.rr (RQ.bb (RQ.ss ?_))))
    refine RQ.pp (res1 rfl rfl) (Split.nn _) ⟨?_,rfl,rfl⟩
    have: ¬s.Ok:=by simp at h3;unfold Sch.Ok;omega
    rw [Sch.e,if_neg this]
   ·
    refine CW.kk (NQ.bb (NQ.ss (CW.sr (RL.pn rfl (CW.rr ?_)))))
    refine RQ.pp (res1 rfl rfl) (Split.nn _) ⟨?_,rfl,rfl⟩
    have:s.Ok:=by simp [tickB] at h2 h3;unfold Sch.Ok;omega
    rw [Sch.e,if_pos this]
theorem rscheck (s:Sch):Spc prog 79 #[.agg #[.int .i64 s.st, .int .i64 s.ln, .int .i64 s.lg, .int .i64 s.of]] [] [] (Is (.int .i64 s.e)):=by
 refine Spc.en func79 rfl rfl (fun w0 hw0=> ?_)
 refine CW.sg [0] [] (RL.box rfl ?_)
 intro b1
 refine RL.pn rfl (CW.ss (CW.sr (RL.fa fa_45_0 rfl (RL.lq isAgg3 rfl ?_))))
 refine RL.q rfl ?_
 apply RL.orB (d:=6) (dp:=10) (l':=(Sq.of (rg 8 37))) rfl (sK [1,2] rfl)
 ·
  intro hb4 K4
  refine RL.fa fa_45_0 rfl (RL.lq isAgg3 rfl ?_)
  refine RL.q rfl ?_
  exact K4 _ (.cons rfl (sK [1,2] rfl))
 ·
  intro hb4 K4
  refine RL.q rfl (RL.q rfl ?_)
  exact K4 _ (.cons rfl (sK [1,2] rfl))
 refine RL.p rfl ?_
 apply RL.orB (d:=11) (dp:=15) (l':=(Sq.of (rg 13 37))) rfl (sK [1,2] rfl)
 ·
  intro hb9 K9
  refine RL.fa fa_45_1 rfl (RL.lq isAgg3 rfl ?_)
  refine RL.q rfl ?_
  exact K9 _ (.cons rfl (sK [1,2] rfl))
 ·
  intro hb9 K9
  refine RL.q rfl (RL.q rfl ?_)
  exact K9 _ (.cons rfl (sK [1,2] rfl))
 refine RL.p rfl ?_
 apply RL.orB (d:=16) (dp:=20) (l':=(Sq.of (rg 18 37))) rfl (sK [1,2] rfl)
 ·
  intro hb14 K14
  refine RL.fa fa_45_1 rfl (RL.lq isAgg3 rfl ?_)
  refine RL.q rfl ?_
  exact K14 _ (.cons rfl (sK [1,2] rfl))
 ·
  intro hb14 K14
  refine RL.q rfl (RL.q rfl ?_)
  exact K14 _ (.cons rfl (sK [1,2] rfl))
 refine RL.p rfl ?_
 apply RL.orB (d:=21) (dp:=25) (l':=(Sq.of (rg 23 37))) rfl (sK [1,2] rfl)
 ·
  intro hb19 K19
  refine RL.fa fa_45_2 rfl (RL.lq isAgg3 rfl ?_)
  refine RL.q rfl ?_
  exact K19 _ (.cons rfl (sK [1,2] rfl))
 ·
  intro hb19 K19
  refine RL.q rfl (RL.q rfl ?_)
  exact K19 _ (.cons rfl (sK [1,2] rfl))
 refine RL.p rfl ?_
 apply RL.orB (d:=26) (dp:=30) (l':=(Sq.of (rg 28 37))) rfl (sK [1,2] rfl)
 ·
  intro hb24 K24
  refine RL.fa fa_45_2 rfl (RL.lq isAgg3 rfl ?_)
  refine RL.q rfl ?_
  exact K24 _ (.cons rfl (sK [1,2] rfl))
 ·
  intro hb24 K24
  refine RL.q rfl (RL.q rfl ?_)
  exact K24 _ (.cons rfl (sK [1,2] rfl))
 refine RL.p rfl ?_
 apply RL.orB (d:=31) (dp:=35) (l':=(Sq.of [33,34,35,36,37])) rfl (sK [1,2] rfl)
 ·
  intro hb29 K29
  refine RL.fa fa_45_3 rfl (RL.lq isAgg3 rfl ?_)
  refine RL.q rfl ?_
  exact K29 _ (.cons rfl (sK [1,2] rfl))
 ·
  intro hb29 K29
  refine RL.q rfl (RL.q rfl ?_)
  exact K29 _ (.cons rfl (sK [1,2] rfl))
 refine RL.p rfl ?_
 apply RL.orB (d:=36) (dp:=40) (l':=(Sq.of [])) rfl (sK [2] rfl)
 ·
  intro hb34 K34
  refine RL.fa fa_45_3 rfl (RL.lq isAgg3 rfl ?_)
  refine RL.q rfl ?_
  exact K34 _ (.cons rfl (sK [2] rfl))
 ·
  intro hb34 K34
  refine RL.q rfl (RL.q rfl ?_)
  exact K34 _ (.cons rfl (sK [2] rfl))
 refine RL.ns ?_
 refine CW.cd rfl (fun h1=> ?_) (fun h1=> ?_)
 ·
  refine CW.sr (RL.pn rfl (CW.rr (RQ.ss ?_)))
  refine RQ.pp (res1 rfl rfl) (Split.nn _) ⟨?_,rfl,rfl⟩
  have: ¬s.Ok:=by simp at h1;unfold Sch.Ok;omega
  rw [Sch.e,if_neg this]
 ·
  refine CW.sn (CW.sr (RL.pn rfl (CW.rr ?_)))
  refine RQ.pp (res1 rfl rfl) (Split.nn _) ⟨?_,rfl,rfl⟩
  have:s.Ok:=by simp at h1;unfold Sch.Ok;omega
  rw [Sch.e,if_pos this]
end Go.Proofs.YtkineolcmdecjaaGreat
