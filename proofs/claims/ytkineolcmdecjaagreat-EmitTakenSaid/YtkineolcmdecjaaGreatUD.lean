import Derived.Test.YtkineolcmdecjaaGreatUC
import Derived.Test.YtkineolcmdecjaaGreatSameInts
namespace Go.Proofs.YtkineolcmdecjaaGreat
open Go.PK
open Tryz
def kindsL (n:Int):List Int:=if 1≤n∧n≤4 then [n,10] else if n=8 then [7,8,9,10,11,12] else []
def KnR (n:Int):Value→List It→List It→Prop:=fun v I' H'=> ∃ob cap,v=slO ob (kindsL n).length cap∧I'= []∧H'= [own ob cap 3 1 (kindsL n).length (ints (kindsL n))]
theorem kinds_a {n:Int} (h:1≤n∧n≤4):kindsL n= [n,10]:=by rw [kindsL,if_pos h]
theorem kinds_no {n:Int} (h: ¬(1≤n∧n≤4)) (h8:n≠8):kindsL n= []:=by rw [kindsL,if_neg h,if_neg h8]
theorem kinds_any (n:Int):Spc prog 37 #[.int .i64 n] [] [] (KnR n):=by
 refine Spc.en func37 rfl rfl (fun w0 hw0=> ?_)
 refine CW.sr (RL.pn rfl (CW.ss (CW.sr (RL.pn rfl (CW.bs (CW.ss ?_))))))
 refine CW.rg (RL.qn rfl ?_)
 refine CW.cutG (γ:=Unit) (fun _=> True) (fun _=> [(0, .int .i64 n),(3, .int .i64 n),(4, .bool (decide (1≤n∧n≤4)))]) (fun _=> []) (fun _=> []) ?_ ?_
 ·
  refine CW.cd rfl (fun h1=> ?_) (fun h1=> ?_)
  ·
   refine CW.kk ?_
   exact NQ.gg () trivial (.cons rfl (.cons rfl (.cons ((congrArg (fun b=> some (Value.bool b)) h1).trans (by rw [decide_eq_true (by simp at h1;omega)])) .nil))) (fun w h=> h)
  ·
   refine CW.s1 rfl ?_
   refine CW.cd rfl (fun h2=> ?_) (fun h2=> ?_)
   ·
    refine CW.kk ?_
    exact NQ.gg () trivial (.cons rfl (.cons rfl (.cons ((congrArg (fun b=> some (Value.bool b)) h2).trans (by rw [decide_eq_true (by simp at h2;omega)])) .nil))) (fun w h=> h)
   ·
    refine CW.s1 rfl ?_
    refine CW.cd rfl (fun h3=> ?_) (fun h3=> ?_)
    ·
     refine CW.kk ?_
     exact NQ.gg () trivial (.cons rfl (.cons rfl (.cons ((congrArg (fun b=> some (Value.bool b)) h3).trans (by rw [decide_eq_true (by simp at h3;omega)])) .nil))) (fun w h=> h)
    ·
     refine CW.rg (RL.q rfl (RL.ee ?_))
     refine NQ.gg () trivial (.cons rfl (.cons rfl (.cons (congrArg (fun b=> some (Value.bool b)) ?_) .nil))) (fun w h=> h)
     rw [Bool.eq_iff_iff]
     simp at h1 h2 h3 ⊢
     omega
 rintro ⟨⟩ -
 refine CW.cd rfl (fun h=> ?_) (fun h=> ?_)
 ·
  refine CW.sg [1] [] (RL.p rfl (RL.buildOwn [.int .i64 n, .int .i64 10] runUnderlying52 sizeOf3 zeroValue3 rfl rfl zc zc rfl zc rfl ?_))
  intro bq
  refine RL.pn rfl (CW.rr (RQ.bb (RQ.ss ?_)))
  have h:1≤n∧n≤4:=by simpa using h
  refine RQ.pp (res1 rfl rfl) (.keep (Split.nn _)) ?_
  exact ⟨some bq,2,by rw [kinds_a h];rfl,rfl,by rw [kinds_a h];rfl⟩
 ·
  refine CW.s1 rfl ?_
  have h: ¬(1≤n∧n≤4):=by simpa using h
  refine CW.cd rfl (fun h8=> ?_) (fun h8=> ?_)
  ·
   refine CW.sg [0] [] (RL.buildOwn [.int .i64 7, .int .i64 8, .int .i64 9, .int .i64 10, .int .i64 11, .int .i64 12] runUnderlying52 sizeOf3 zeroValue3 rfl rfl zc zc rfl zc rfl ?_)
   intro bq
   refine RL.pn rfl (CW.ok [2] rfl (CW.rr (RQ.bb (RQ.ss ?_))))
   have h8:n=8:=by simpa using h8
   subst h8
   exact RQ.pp (res1 rfl rfl) (.keep (Split.nn _)) ⟨some bq,6,rfl,rfl,rfl⟩
  ·
   refine CW.kk (NQ.bb (NQ.ss (CW.sr (RL.pn rfl (CW.rr ?_)))))
   have h8:n≠8:=by simpa using h8
   refine RQ.ownNone (e:=3) 1 ?_
   exact RQ.pp (res1 rfl rfl) (.keep (Split.nn _)) ⟨none,0,by rw [kinds_no h h8];rfl,rfl,by rw [kinds_no h h8];rfl⟩
theorem rkinds_any (n:Int):Spc prog 13 #[.int .i64 n] [] [] (KnR n):=by
 refine Spc.en func13 rfl rfl (fun w0 hw0=> ?_)
 refine CW.sr (RL.pn rfl (CW.sr (RL.pn rfl (CW.bs (CW.sr ?_)))))
 refine RL.qn rfl ?_
 refine CW.cutG (γ:=Unit) (fun _=> True) (fun _=> [(0, .int .i64 n),(3, .int .i64 n),(4, .bool (decide (1≤n∧n≤4)))]) (fun _=> []) (fun _=> []) ?_ ?_
 ·
  refine CW.cd rfl (fun h1=> ?_) (fun h1=> ?_)
  ·
   refine CW.kk ?_
   exact NQ.gg () trivial (.cons rfl (.cons rfl (.cons ((congrArg (fun b=> some (Value.bool b)) h1).trans (by rw [decide_eq_true (by simp at h1;omega)])) .nil))) (fun w h=> h)
  ·
   refine CW.s1 rfl ?_
   refine CW.cd rfl (fun h2=> ?_) (fun h2=> ?_)
   ·
    refine CW.kk ?_
    exact NQ.gg () trivial (.cons rfl (.cons rfl (.cons ((congrArg (fun b=> some (Value.bool b)) h2).trans (by rw [decide_eq_true (by simp at h2;omega)])) .nil))) (fun w h=> h)
   ·
    refine CW.s1 rfl ?_
    refine CW.cd rfl (fun h3=> ?_) (fun h3=> ?_)
    ·
     refine CW.kk ?_
     exact NQ.gg () trivial (.cons rfl (.cons rfl (.cons ((congrArg (fun b=> some (Value.bool b)) h3).trans (by rw [decide_eq_true (by simp at h3;omega)])) .nil))) (fun w h=> h)
    ·
     refine CW.rg (RL.q rfl (RL.ee ?_))
     refine NQ.gg () trivial (.cons rfl (.cons rfl (.cons (congrArg (fun b=> some (Value.bool b)) ?_) .nil))) (fun w h=> h)
     rw [Bool.eq_iff_iff]
     simp at h1 h2 h3 ⊢
     omega
 rintro ⟨⟩ -
 refine CW.cd rfl (fun h=> ?_) (fun h=> ?_)
 ·
  refine CW.sg [1] [] (RL.p rfl (RL.buildOwn [.int .i64 n, .int .i64 10] runUnderlying52 sizeOf3 zeroValue3 rfl rfl zc zc rfl zc rfl ?_))
  intro bq
  refine RL.pn rfl (CW.rr (RQ.bb ?_))
  have h:1≤n∧n≤4:=by simpa using h
  refine RQ.pp (res1 rfl rfl) (.keep (Split.nn _)) ?_
  exact ⟨some bq,2,by rw [kinds_a h];rfl,rfl,by rw [kinds_a h];rfl⟩
 ·
  refine CW.s1 rfl ?_
  have h: ¬(1≤n∧n≤4):=by simpa using h
  refine CW.cd rfl (fun h8=> ?_) (fun h8=> ?_)
  ·
   refine CW.sg [0] [] (RL.buildOwn [.int .i64 7, .int .i64 8, .int .i64 9, .int .i64 10, .int .i64 11, .int .i64 12] runUnderlying52 sizeOf3 zeroValue3 rfl rfl zc zc rfl zc rfl ?_)
   intro bq
   refine RL.pn rfl (CW.ok [2] rfl (CW.rr (RQ.bb ?_)))
   have h8:n=8:=by simpa using h8
   subst h8
   exact RQ.pp (res1 rfl rfl) (.keep (Split.nn _)) ⟨some bq,6,rfl,rfl,rfl⟩
  ·
   refine CW.sr (RL.pn rfl (CW.rr (RQ.bb ?_)))
   have h8:n≠8:=by simpa using h8
   refine RQ.ownNone (e:=3) 1 ?_
   exact RQ.pp (res1 rfl rfl) (.keep (Split.nn _)) ⟨none,0,by rw [kinds_no h h8];rfl,rfl,by rw [kinds_no h h8];rfl⟩
def rootB (seed:B8) (id:Int):List B8:=seed::BitVec.ofInt 8 id::List.replicate 30 (0#8)
def noS (seed:B8) (id kd:Int):Sr:=⟨id,kd,rootB seed id,0,0,0,0,⟨0,0,0,0,0,0,0,0,0,0⟩⟩
def aidS (seed:B8) (id kd:Int):Sr:=⟨id,kd,rootB seed id,1,2,4294967296,200,⟨34359738368,268435456,274877906944,1073741824,137438953472,50,17179869184,3,300,5⟩⟩
def magS (seed:B8) (id kd:Int):Sr:=⟨id,kd,rootB seed id,1,2,67108864,200,⟨268435456,1048576,1073741824,16777216,1073741824,50,2147483648,3,300,5⟩⟩
def plainS (seed:B8) (id kd:Int):Sr:=if aidB kd=true then (if kd=3 then magS seed id kd else aidS seed id kd) else noS seed id kd
theorem rootB_len (seed:B8) (id:Int):(rootB seed id).length=32:=by simp [rootB]
theorem set_w {s:Sr} (h:s.rt.length=32) (v:Int):spl s.cells (0+34) [.int .i64 v]=Sr.cells { s with w:=v }:=by
 have e:∀v:Int,Sr.cells { s with w:=v }=(.int .i64 s.id:: .int .i64 s.kd::(bytes s.rt++ []))++([.int .i64 v]++ [.int .i64 s.g, .int .i64 s.st, .int .i64 s.hz, .int .i64 s.wt.go, .int .i64 s.wt.gg, .int .i64 s.wt.gm, .int .i64 s.wt.sl, .int .i64 s.wt.mo, .int .i64 s.wt.sa, .int .i64 s.wt.ra, .int .i64 s.wt.ba, .int .i64 s.wt.ho, .int .i64 s.wt.pr]):=fun v=> by simp [Sr.cells,Sr.tl,Wt.cells]
 rw [show s.cells=Sr.cells { s with w:=s.w } from rfl,e,e];exact seg_spl (by simp [h]) rfl
theorem set_g {s:Sr} (h:s.rt.length=32) (v:Int):spl s.cells (0+35) [.int .i64 v]=Sr.cells { s with g:=v }:=by
 have e:∀v:Int,Sr.cells { s with g:=v }=(.int .i64 s.id:: .int .i64 s.kd::(bytes s.rt++ [.int .i64 s.w]))++([.int .i64 v]++ [.int .i64 s.st, .int .i64 s.hz, .int .i64 s.wt.go, .int .i64 s.wt.gg, .int .i64 s.wt.gm, .int .i64 s.wt.sl, .int .i64 s.wt.mo, .int .i64 s.wt.sa, .int .i64 s.wt.ra, .int .i64 s.wt.ba, .int .i64 s.wt.ho, .int .i64 s.wt.pr]):=fun v=> by simp [Sr.cells,Sr.tl,Wt.cells]
 rw [show s.cells=Sr.cells { s with g:=s.g } from rfl,e,e];exact seg_spl (by simp [h]) rfl
theorem set_st {s:Sr} (h:s.rt.length=32) (v:Int):spl s.cells (0+36) [.int .i64 v]=Sr.cells { s with st:=v }:=by
 have e:∀v:Int,Sr.cells { s with st:=v }=(.int .i64 s.id:: .int .i64 s.kd::(bytes s.rt++ [.int .i64 s.w, .int .i64 s.g]))++([.int .i64 v]++ [.int .i64 s.hz, .int .i64 s.wt.go, .int .i64 s.wt.gg, .int .i64 s.wt.gm, .int .i64 s.wt.sl, .int .i64 s.wt.mo, .int .i64 s.wt.sa, .int .i64 s.wt.ra, .int .i64 s.wt.ba, .int .i64 s.wt.ho, .int .i64 s.wt.pr]):=fun v=> by simp [Sr.cells,Sr.tl,Wt.cells]
 rw [show s.cells=Sr.cells { s with st:=s.st } from rfl,e,e];exact seg_spl (by simp [h]) rfl
theorem set_hz {s:Sr} (h:s.rt.length=32) (v:Int):spl s.cells (0+37) [.int .i64 v]=Sr.cells { s with hz:=v }:=by
 have e:∀v:Int,Sr.cells { s with hz:=v }=(.int .i64 s.id:: .int .i64 s.kd::(bytes s.rt++ [.int .i64 s.w, .int .i64 s.g, .int .i64 s.st]))++([.int .i64 v]++ [.int .i64 s.wt.go, .int .i64 s.wt.gg, .int .i64 s.wt.gm, .int .i64 s.wt.sl, .int .i64 s.wt.mo, .int .i64 s.wt.sa, .int .i64 s.wt.ra, .int .i64 s.wt.ba, .int .i64 s.wt.ho, .int .i64 s.wt.pr]):=fun v=> by simp [Sr.cells,Sr.tl,Wt.cells]
 rw [show s.cells=Sr.cells { s with hz:=s.hz } from rfl,e,e];exact seg_spl (by simp [h]) rfl
theorem set_wt {s:Sr} (h:s.rt.length=32) (x:Wt):spl s.cells (0+38) x.cells=Sr.cells { s with wt:=x }:=by
 have e:∀x:Wt,Sr.cells { s with wt:=x }=(.int .i64 s.id:: .int .i64 s.kd::(bytes s.rt++ [.int .i64 s.w, .int .i64 s.g, .int .i64 s.st, .int .i64 s.hz]))++(x.cells++ []):=fun x=> by simp [Sr.cells,Sr.tl]
 rw [show s.cells=Sr.cells { s with wt:=s.wt } from rfl,e,e];exact seg_spl (by simp [h]) rfl
theorem set_gate {s:Sr} (h:s.rt.length=32) (a b c:Int):spl s.cells (0+38+0) [.int .i64 a, .int .i64 b, .int .i64 c]=Sr.cells { s with wt:= { s.wt with go:=a,gg:=b,gm:=c } }:=by
 have e:∀a b c:Int,Sr.cells { s with wt:= { s.wt with go:=a,gg:=b,gm:=c } }=(.int .i64 s.id:: .int .i64 s.kd::(bytes s.rt++ [.int .i64 s.w, .int .i64 s.g, .int .i64 s.st, .int .i64 s.hz]))++([.int .i64 a, .int .i64 b, .int .i64 c]++ [.int .i64 s.wt.sl, .int .i64 s.wt.mo, .int .i64 s.wt.sa, .int .i64 s.wt.ra, .int .i64 s.wt.ba, .int .i64 s.wt.ho, .int .i64 s.wt.pr]):=fun a b c=> by simp [Sr.cells,Sr.tl,Wt.cells]
 rw [show s.cells=Sr.cells { s with wt:= { s.wt with go:=s.wt.go,gg:=s.wt.gg,gm:=s.wt.gm } } from rfl,e,e];exact seg_spl (by simp [h]) rfl
theorem set_sl {s:Sr} (h:s.rt.length=32) (v:Int):spl s.cells (0+38+3) [.int .i64 v]=Sr.cells { s with wt:= { s.wt with sl:=v } }:=by
 have e:∀v:Int,Sr.cells { s with wt:= { s.wt with sl:=v } }=(.int .i64 s.id:: .int .i64 s.kd::(bytes s.rt++ [.int .i64 s.w, .int .i64 s.g, .int .i64 s.st, .int .i64 s.hz, .int .i64 s.wt.go, .int .i64 s.wt.gg, .int .i64 s.wt.gm]))++([.int .i64 v]++ [.int .i64 s.wt.mo, .int .i64 s.wt.sa, .int .i64 s.wt.ra, .int .i64 s.wt.ba, .int .i64 s.wt.ho, .int .i64 s.wt.pr]):=fun v=> by simp [Sr.cells,Sr.tl,Wt.cells]
 rw [show s.cells=Sr.cells { s with wt:= { s.wt with sl:=s.wt.sl } } from rfl,e,e];exact seg_spl (by simp [h]) rfl
theorem set_mo {s:Sr} (h:s.rt.length=32) (v:Int):spl s.cells (0+38+4) [.int .i64 v]=Sr.cells { s with wt:= { s.wt with mo:=v } }:=by
 have e:∀v:Int,Sr.cells { s with wt:= { s.wt with mo:=v } }=(.int .i64 s.id:: .int .i64 s.kd::(bytes s.rt++ [.int .i64 s.w, .int .i64 s.g, .int .i64 s.st, .int .i64 s.hz, .int .i64 s.wt.go, .int .i64 s.wt.gg, .int .i64 s.wt.gm, .int .i64 s.wt.sl]))++([.int .i64 v]++ [.int .i64 s.wt.sa, .int .i64 s.wt.ra, .int .i64 s.wt.ba, .int .i64 s.wt.ho, .int .i64 s.wt.pr]):=fun v=> by simp [Sr.cells,Sr.tl,Wt.cells]
 rw [show s.cells=Sr.cells { s with wt:= { s.wt with mo:=s.wt.mo } } from rfl,e,e];exact seg_spl (by simp [h]) rfl
theorem set_ra {s:Sr} (h:s.rt.length=32) (v:Int):spl s.cells (0+38+6) [.int .i64 v]=Sr.cells { s with wt:= { s.wt with ra:=v } }:=by
 have e:∀v:Int,Sr.cells { s with wt:= { s.wt with ra:=v } }=(.int .i64 s.id:: .int .i64 s.kd::(bytes s.rt++ [.int .i64 s.w, .int .i64 s.g, .int .i64 s.st, .int .i64 s.hz, .int .i64 s.wt.go, .int .i64 s.wt.gg, .int .i64 s.wt.gm, .int .i64 s.wt.sl, .int .i64 s.wt.mo, .int .i64 s.wt.sa]))++([.int .i64 v]++ [.int .i64 s.wt.ba, .int .i64 s.wt.ho, .int .i64 s.wt.pr]):=fun v=> by simp [Sr.cells,Sr.tl,Wt.cells]
 rw [show s.cells=Sr.cells { s with wt:= { s.wt with ra:=s.wt.ra } } from rfl,e,e];exact seg_spl (by simp [h]) rfl
theorem plain_any (seed:B8) (id kd:Int):Spc prog 71 #[U8 seed, .int .i64 id, .int .i64 kd] [] [] (Is (.agg (plainS seed id kd).cells.toArray)):=by
 have hr:=rootB_len seed id
 have hlen:∀s:Sr,s.rt=rootB seed id→s.cells.length=48:=fun s h=> sr_len (by rw [h];exact hr)
 refine Spc.en func71 rfl rfl (fun w0 hw0=> ?_)
 refine CW.sg [0] [] (RL.al zeroValue122 rfl ?_)
 intro b1
 refine RL.ns (CW.sg [7,8] [8] (RL.q rfl (RL.q rfl (RL.lowest runUnderlying3 runUnderlying5 rfl (RL.buildA (bytes (rootB seed id)) zeroValue31 runUnderlying31 sizeOf5 rfl (RL.bS (noS seed id kd).cells zeroValue122 pl_122 rfl (RL.al zeroValue122 rfl ?_)))))))
 intro b2
 refine RL.sW sizeOf122 rfl (sr_ones _) uE rfl rfl ?_
 refine RL.ns (CW.ok [2,6,7] rfl (CW.ss (CW.sr (RL.lW isAgg122 sizeOf122 rfl mQ rfl ?_))))
 refine RL.vq (aid_any (noS seed id kd)) call116 rfl ?_
 refine RL.pn rfl ?_
 refine CW.cd rfl (fun h1=> ?_) (fun h1=> ?_)
 ·
  refine CW.sg [1] [1] (RL.lW isAgg122 sizeOf122 rfl mQ (hlen _ rfl) ?_)
  refine RL.sW sizeOf122 rfl (sr_ones _) uE (hlen _ rfl) rfl ?_
  refine RL.ns (CW.rr (RQ.ss ?_))
  have h1':aidB kd=false:=by simpa [noS] using h1
  exact RQ.pp (resW rfl rfl isAgg122 sizeOf122 mQ (hlen _ rfl)) (Split.nn _) ⟨by rw [plainS,h1',if_neg zc],rfl,rfl⟩
 ·
  refine CW.sn (CW.sg [1,3,5,7] [1,3,5,7] (RL.fa fa_122_3 rfl (RL.sX (vs:= [_]) (show spl (Sr.cells ⟨id,kd,rootB seed id,0,0,0,0,⟨0,0,0,0,0,0,0,0,0,0⟩⟩) (0+34) [.int .i64 1]=Sr.cells ⟨id,kd,rootB seed id,1,0,0,0,⟨0,0,0,0,0,0,0,0,0,0⟩⟩ from set_w hr _) sizeOf3 rfl rfl uE (by rw [hlen _ rfl];decide) ?_)))
  refine RL.fa fa_122_4 rfl (RL.sX (vs:= [_]) (show spl (Sr.cells ⟨id,kd,rootB seed id,1,0,0,0,⟨0,0,0,0,0,0,0,0,0,0⟩⟩) (0+35) [.int .i64 2]=Sr.cells ⟨id,kd,rootB seed id,1,2,0,0,⟨0,0,0,0,0,0,0,0,0,0⟩⟩ from set_g hr _) sizeOf3 rfl rfl uE (by rw [hlen _ rfl];decide) ?_)
  refine RL.fa fa_122_5 rfl (RL.sX (vs:= [_]) (show spl (Sr.cells ⟨id,kd,rootB seed id,1,2,0,0,⟨0,0,0,0,0,0,0,0,0,0⟩⟩) (0+36) [.int .i64 4294967296]=Sr.cells ⟨id,kd,rootB seed id,1,2,4294967296,0,⟨0,0,0,0,0,0,0,0,0,0⟩⟩ from set_st hr _) sizeOf25 rfl rfl uE (by rw [hlen _ rfl];decide) ?_)
  refine RL.fa fa_122_6 rfl (RL.sX (vs:= [_]) (show spl (Sr.cells ⟨id,kd,rootB seed id,1,2,4294967296,0,⟨0,0,0,0,0,0,0,0,0,0⟩⟩) (0+37) [.int .i64 200]=Sr.cells ⟨id,kd,rootB seed id,1,2,4294967296,200,⟨0,0,0,0,0,0,0,0,0,0⟩⟩ from set_hz hr _) sizeOf3 rfl rfl uE (by rw [hlen _ rfl];decide) ?_)
  refine RL.ns (CW.ok [2,6,7] rfl (CW.sg [3] [3] (RL.bS [_,_,_] zeroValue118 pl_118 rfl (RL.bS [_,_,_,_,_,_,_,_,_,_] zeroValue120 pl_120 rfl (RL.fa fa_122_7 rfl (RL.sX (vs:=Wt.cells ⟨34359738368,268435456,274877906944,1073741824,137438953472,50,17179869184,3,300,5⟩) (show spl (Sr.cells ⟨id,kd,rootB seed id,1,2,4294967296,200,⟨0,0,0,0,0,0,0,0,0,0⟩⟩) (0+38) (Wt.cells ⟨34359738368,268435456,274877906944,1073741824,137438953472,50,17179869184,3,300,5⟩)=Sr.cells ⟨id,kd,rootB seed id,1,2,4294967296,200,⟨34359738368,268435456,274877906944,1073741824,137438953472,50,17179869184,3,300,5⟩⟩ from set_wt hr _) sizeOf120 rfl rfl uE (by rw [hlen _ rfl];decide) ?_))))))
  refine RL.ns (CW.ss (CW.s1 rfl ?_))
  have h1':aidB kd=true:=by simpa [noS] using h1
  refine CW.cd rfl (fun h2=> ?_) (fun h2=> ?_)
  ·
   refine CW.sg [1] [1] (RL.fa fa_122_5 rfl (RL.sX (vs:= [_]) (show spl (Sr.cells ⟨id,kd,rootB seed id,1,2,4294967296,200,⟨34359738368,268435456,274877906944,1073741824,137438953472,50,17179869184,3,300,5⟩⟩) (0+36) [.int .i64 67108864]=Sr.cells ⟨id,kd,rootB seed id,1,2,67108864,200,⟨34359738368,268435456,274877906944,1073741824,137438953472,50,17179869184,3,300,5⟩⟩ from set_st hr _) sizeOf25 rfl rfl uE (by rw [hlen _ rfl];decide) ?_))
   refine RL.ns (CW.ok [6,7] rfl (CW.sg [3] [3] (RL.bS [_,_,_] zeroValue118 pl_118 rfl (RL.fa fa_122_7 rfl (RL.fa fa_120_0 rfl (RL.sX (vs:= [_,_,_]) (show spl (Sr.cells ⟨id,kd,rootB seed id,1,2,67108864,200,⟨34359738368,268435456,274877906944,1073741824,137438953472,50,17179869184,3,300,5⟩⟩) (0+38+0) [.int .i64 268435456, .int .i64 1048576, .int .i64 1073741824]=Sr.cells ⟨id,kd,rootB seed id,1,2,67108864,200,⟨268435456,1048576,1073741824,1073741824,137438953472,50,17179869184,3,300,5⟩⟩ from set_gate hr _ _ _) sizeOf118 rfl rfl uE (by rw [hlen _ rfl];decide) ?_))))))
   refine RL.ns (CW.rn (ef:= [2,5,8]) (bk:= [2,5,8]) (RL.fa fa_122_7 rfl (RL.fa fa_120_1 rfl (RL.sX (vs:= [_]) (show spl (Sr.cells ⟨id,kd,rootB seed id,1,2,67108864,200,⟨268435456,1048576,1073741824,1073741824,137438953472,50,17179869184,3,300,5⟩⟩) (0+38+3) [.int .i64 16777216]=Sr.cells ⟨id,kd,rootB seed id,1,2,67108864,200,⟨268435456,1048576,1073741824,16777216,137438953472,50,17179869184,3,300,5⟩⟩ from set_sl hr _) sizeOf25 rfl rfl uE (by rw [hlen _ rfl];decide) ?_))))
   refine RL.fa fa_122_7 rfl (RL.fa fa_120_2 rfl (RL.sX (vs:= [_]) (show spl (Sr.cells ⟨id,kd,rootB seed id,1,2,67108864,200,⟨268435456,1048576,1073741824,16777216,137438953472,50,17179869184,3,300,5⟩⟩) (0+38+4) [.int .i64 1073741824]=Sr.cells ⟨id,kd,rootB seed id,1,2,67108864,200,⟨268435456,1048576,1073741824,16777216,1073741824,50,17179869184,3,300,5⟩⟩ from set_mo hr _) sizeOf25 rfl rfl uE (by rw [hlen _ rfl];decide) ?_))
   refine RL.fa fa_122_7 rfl (RL.fa fa_120_4 rfl (RL.sX (vs:= [_]) (show spl (Sr.cells ⟨id,kd,rootB seed id,1,2,67108864,200,⟨268435456,1048576,1073741824,16777216,1073741824,50,17179869184,3,300,5⟩⟩) (0+38+6) [.int .i64 2147483648]=Sr.cells ⟨id,kd,rootB seed id,1,2,67108864,200,⟨268435456,1048576,1073741824,16777216,1073741824,50,2147483648,3,300,5⟩⟩ from set_ra hr _) sizeOf25 rfl rfl uE (by rw [hlen _ rfl];decide) ?_))
   refine RL.ns (CW.ok [6,7] rfl (CW.sg [1] [1] (RL.lW isAgg122 sizeOf122 rfl mQ (hlen _ rfl) ?_)))
   refine RL.sW sizeOf122 rfl (sr_ones _) uE (hlen _ rfl) rfl ?_
   refine RL.ns (CW.rr ?_)
   have h2:kd=3:=by simpa using h2
   exact RQ.pp (resW rfl rfl isAgg122 sizeOf122 mQ (hlen _ rfl)) (Split.nn _) ⟨by rw [plainS,if_pos h1',if_pos h2];rfl,rfl,rfl⟩
  ·
   refine CW.sn (CW.ok [6,7] rfl (CW.sg [1] [1] (RL.lW isAgg122 sizeOf122 rfl mQ (hlen _ rfl) ?_)))
   refine RL.sW sizeOf122 rfl (sr_ones _) uE (hlen _ rfl) rfl ?_
   refine RL.ns (CW.rr ?_)
   have h2:kd≠3:=by simpa using h2
   exact RQ.pp (resW rfl rfl isAgg122 sizeOf122 mQ (hlen _ rfl)) (Split.nn _) ⟨by rw [plainS,if_pos h1',if_neg h2];rfl,rfl,rfl⟩
def kindL:List Int:= [1,2,3,4,5,8]
def kindN (i:Nat):Int:=kindL.getD i 0
def plainL (seed:B8) (gone:List Int) (i:Nat):List Sr:=((List.range i).filter fun j:Nat=> !gone.contains (j:Int)).map fun j:Nat=> plainS seed (j:Int) (kindN j)
def plainC (seed:B8) (gone:List Int):Cf:=⟨0,0,42949672960,4194304,⟨0,100,2,20⟩,List.replicate 32 0,5,500,100,64,plainL seed gone 6⟩
theorem plainL_yes {seed:B8} {gone:List Int} {i:Nat} (h:gone.contains (i:Int)=true):plainL seed gone (i+1)=plainL seed gone i:=by
 have h':(i:Int)∈gone:=by simpa using h
 simp [plainL,List.range_succ,List.filter_append,h']
theorem plainL_no {seed:B8} {gone:List Int} {i:Nat} (h:gone.contains (i:Int)=false):plainL seed gone (i+1)=plainL seed gone i++ [plainS seed (i:Int) (kindN i)]:=by
 have h': ¬(i:Int)∈gone:=by simpa using h
 simp [plainL,List.range_succ,List.filter_append,h']
theorem plainL_len (seed:B8) (gone:List Int) (i:Nat):(plainL seed gone i).length≤i:=by
 rw [plainL,List.length_map];exact Nat.le_trans (List.length_filter_le _ _) zm
theorem plainS_rt (seed:B8) (id kd:Int):(plainS seed id kd).rt=rootB seed id:=by
 unfold plainS;split
 ·split <;> rfl
 ·rfl
theorem plainS_len (seed:B8) (id kd:Int):(plainS seed id kd).cells.length=48:=sr_len (by rw [plainS_rt];exact rootB_len _ _)
def idxI (n:Int) (l:List Int):Int:=match l.findIdx? (fun x=> n==x) with
 | some i=> (i:Int)
 | none=> -1
theorem idxI_no {n:Int} {l:List Int} (h:∀j < l.length,∀x,l[j]? =some x→(n==x)=false):idxI n l= -1:=by
 rw [idxI,List.findIdx?_eq_none_iff.2 (fun x hx=> by
  obtain ⟨j,hj,rfl⟩:=List.mem_iff_getElem.1 hx
  exact h j hj _ (List.getElem?_eq_getElem hj))]
theorem idxI_yes {n:Int} {l:List Int} {i:Nat} {x:Int} (hx:l[i]? =some x) (hp:(n==x)=true) (h:∀j < i,∀x,l[j]? =some x→(n==x)=false):idxI n l=i:=by
 obtain ⟨hlt,rfl⟩:=List.getElem?_eq_some_iff.1 hx
 rw [idxI,List.findIdx?_eq_some_iff_getElem.2 ⟨hlt,hp,fun j hj=> by
  have:=h j hj _ (List.getElem?_eq_getElem zb);rw [this];decide⟩]
theorem idxI_has (n:Int) (l:List Int):decide (idxI n l≥0)=l.contains n:=by
 rw [Bool.eq_iff_iff,decide_eq_true_iff,List.contains_iff_mem,idxI]
 cases h:l.findIdx? (fun x=> n==x) with
 | none=>
  have:=List.findIdx?_eq_none_iff.1 h
  simp only
  constructor
  ·intro h;omega
  ·intro hm;have:=this n hm;simp at this
 | some i=>
  obtain ⟨hlt,hp, -⟩:=List.findIdx?_eq_some_iff_getElem.1 h
  simp only
  refine ⟨fun _=> ?_,fun _=> by omega⟩
  have:n=l[i]:=by simpa using hp
  rw [this];exact List.getElem_mem _
theorem index_int (p:Option Addr) (c m:Nat) (l:List Int) (n:Int) (hm:l.length=m) (hb:m≤1000000):Spc prog 115 #[.slice p m c, .int .i64 n] [sls p 1 m (ints l)] [] (Is (.int .i64 (idxI n l))):=by
 subst hm
 refine Spc.en func115 rfl rfl (fun w0 hw0=> ?_)
 refine CW.sr (RL.pn rfl (CW.ss (CW.sr (RL.p rfl (RL.lenS runUnderlying52 rfl (RL.pn rfl (CW.bb ?_)))))))
 refine CW.gI (fun J hJ=> ?_)
 have m2:sls p 1 l.length (ints l)∈J:=hJ _ zm
 clear hJ
 refine CW.loop (γ:=Nat) (fun i=> i≤l.length∧(∀j < i,∀x,l[j]? =some x→(n==x)=false)) (fun i=> [(0, .slice p l.length c),(1, .int .i64 n),(7, .int .i64 (l.length:Int)),(8, .int .i64 (i:Int))]) (fun _=> J) (fun _=> []) (fun i=> l.length - i) 0 ⟨Nat.zero_le _,fun j h=> by omega⟩ sE wE ?_
 rintro i ⟨hi,hok⟩
 refine CW.ff (p:=p=none→l.length=0) (fun w hC e=> sls_nil (hC.s.i _ m2) e) (fun hpa=> ?_)
 refine CW.sr (RL.pn rfl (CW.ss ?_))
 refine CW.cd rfl (fun hlt=> ?_) (fun hlt=> ?_)
 ·
  have hlt:i < l.length:=by simp at hlt;omega
  cases p with
  | none=> exact absurd (hpa rfl) zb
  | some a=>
  have hx:=List.getElem?_eq_getElem hlt
  generalize l[i]=x at hx
  have f1:=RdI.sls m2 hx
  refine CW.sn (CW.ss (CW.bb (CW.s1 rfl (CW.sr (RL.q rfl ?_)))))
  refine RL.p rfl ?_
  first | refine RL.ix (j:=i) runUnderlying52 sizeOf3 rfl (hlt) ?_ | refine RL.idx (j:=i) runUnderlying52 sizeOf3 rfl rfl (hlt) ?_
  refine RL.lq isAgg3 rfl ?_
  refine RL.pn rfl (CW.ok [0,1,5,7,8,16] rfl ?_)
  refine CW.cd rfl (fun hp=> ?_) (fun hp=> ?_)
  ·
   refine CW.s1 rfl (CW.rr (RQ.bb (RQ.ss (RQ.ss (RQ.bb (RQ.ss ?_))))))
   exact RQ.pp (res1 rfl rfl) (Split.nn _) ⟨by rw [idxI_yes hx hp hok],rfl,rfl⟩
  ·
   refine CW.kk (NQ.bb (NQ.ss (CW.rg (RL.bx rfl (wrapV_i64 zb zb) ?_))))
   refine RL.p rfl (RL.ee ?_)
   refine NQ.rr (g:=i) (i+1) ⟨hlt,fun j hj y hy=> ?_⟩ (by show l.length - (i+1) < l.length - i;omega) sE wE
   rcases Nat.lt_succ_iff_lt_or_eq.1 hj with hj | rfl
   ·exact hok j hj y hy
   ·rw [hx] at hy;cases hy;exact hp
 ·
  refine CW.xx (XQ.ss (XQ.ss (XQ.hh (NQ.ss (CW.sr (RL.pn rfl (CW.rr ?_)))))))
  have hin:i=l.length:=by simp at hlt;omega
  subst hin
  exact RQ.pp (res1 rfl rfl) (Split.nn _) ⟨by rw [idxI_no hok],rfl,rfl⟩
theorem cont_int (p:Option Addr) (c m:Nat) (l:List Int) (n:Int) (hm:l.length=m) (hb:m≤1000000):Spc prog 70 #[.slice p m c, .int .i64 n] [sls p 1 m (ints l)] [] (Is (.bool (l.contains n))):=by
 refine Spc.en func70 rfl rfl (fun w0 hw0=> ?_)
 refine CW.sr (RL.pn rfl (CW.sr (RL.q rfl (RL.vq (index_int p c m l n hm hb) call115 rfl ?_))))
 refine RL.qn rfl (CW.ok [4] rfl (CW.rr ?_))
 exact RQ.pp (res1 rfl rfl) (Split.nn _) ⟨by rw [←idxI_has],rfl,rfl⟩
theorem splain_any (seed:B8) (p:Option Addr) (c m:Nat) (gone:List Int) (hm:gone.length=m) (hb:m≤1000000):Spc prog 33 #[U8 seed, .slice p m c] [sls p 1 m (ints gone)] [] (CfR 122 (plainC seed gone)):=by
 subst hm
 have hcm:(plainC seed gone).cm.length=32:=rfl
 have hl45:=fun sl=> cf_len hcm sl
 refine Spc.en func33 rfl rfl (fun w0 hw0=> ?_)
 refine CW.sg [0] [] (RL.al zeroValue34 rfl ?_)
 intro b1
 refine RL.ns (CW.sg [3,4] [4] (RL.buildA [_,_,_] zeroValue27 runUnderlying27 sizeOf25 rfl (RL.bS [_,_,_,_] zeroValue29 pl_29 rfl (RL.bS ((plainC seed gone).cells (.slice none 0 0)) zeroValue34 pl_34 rfl (RL.al zeroValue34 rfl ?_)))))
 intro b2
 refine RL.sW sizeOf34 rfl (cf_ones _ rfl) uE (hl45 _) rfl ?_
 refine RL.ns (CW.ss (CW.sg [0] [] (RL.buildSlice [_,_,_,_,_,_] runUnderlying52 sizeOf3 zeroValue3 rfl rfl zc zc rfl rfl ?_)))
 intro b3
 refine RL.lenS runUnderlying52 rfl (RL.pn rfl (CW.bb (CW.fP (A:= [cel b3 [.int .i64 1, .int .i64 2, .int .i64 3, .int .i64 4, .int .i64 5, .int .i64 8] 3]) (B:= [cel b2 ((plainC seed gone).cells (.slice none 0 0)) 34,cel b1 (zeroC.cells (.slice none 0 0)) 34]) pE rfl ?_)))
 refine CW.gI (fun J hJ=> ?_)
 have m2:sls p 1 gone.length (ints gone)∈J:=hJ _ (List.Mem.tail _ (List.Mem.head _))
 have m3:cel b3 [.int .i64 1, .int .i64 2, .int .i64 3, .int .i64 4, .int .i64 5, .int .i64 8] 3∈J:=hJ _ (List.Mem.head _)
 clear hJ
 refine CW.ownNone (e:=122) 48 ?_
 refine CW.loop (γ:=Nat×Option Nat×Nat×Nat) (fun g=> g.1≤6∧g.2.2.2=(plainL seed gone g.1).length) (fun g=> [(0,U8 seed),(1, .slice p gone.length c),(4, .pointer (some ⟨b1,0,none⟩)),(5, .pointer (some ⟨b2,0,none⟩)),(11, .slice (some ⟨b3,0,none⟩) 6 6),(12, .int .i64 6),(13, .int .i64 (g.1:Int))]) (fun _=> J)
  (fun g=> [cel b2 ((plainC seed gone).cells (slO g.2.1 g.2.2.2 g.2.2.1)) 34,own g.2.1 g.2.2.1 122 48 g.2.2.2 ((plainL seed gone g.1).flatMap Sr.cells),cel b1 (zeroC.cells (.slice none 0 0)) 34]) (fun g=> 6 - g.1) (0,none,0,0) ⟨Nat.zero_le _,rfl⟩ sE wE ?_
 rintro ⟨i,ob,cp,n⟩ ⟨hi,hn⟩
 dsimp only at hi hn ⊢
 have hnb:n≤6:=by rw [hn];exact Nat.le_trans (plainL_len _ _ _) hi
 refine CW.sr (RL.pn rfl (CW.ss ?_))
 refine CW.cd rfl (fun hlt=> ?_) (fun hlt=> ?_)
 ·
  have hlt:i < 6:=by simp at hlt;omega
  have hsl:=plainS_len seed (i:Int) (kindN i)
  have hk:([.int .i64 1, .int .i64 2, .int .i64 3, .int .i64 4, .int .i64 5, .int .i64 8]:List Value)[0+i*1]? =some (.int .i64 (kindN i)):=by
   match i,hlt with
   | 0,_=> rfl
   | 1,_=> rfl
   | 2,_=> rfl
   | 3,_=> rfl
   | 4,_=> rfl
   | 5,_=> rfl
  have fK:RdI J ⟨b3,0+i*1,none⟩ (.int .i64 (kindN i)):=⟨fun _=> Rd.getI m3 hk⟩
  refine CW.sn (CW.ss (CW.bb (CW.sr (RL.p rfl ?_))))
  first | refine RL.ix (j:=i) runUnderlying52 sizeOf3 rfl (hlt) ?_ | refine RL.idx (j:=i) runUnderlying52 sizeOf3 rfl rfl (hlt) ?_
  refine RL.lq isAgg3 rfl ?_
  refine RL.qn rfl (CW.sr (RL.q rfl (RL.vv (cont_int p c _ gone (i:Int) rfl hb) call70 rfl (.inI m2 .nil) (RL.pn rfl (CW.ok [0,1,4,5,6,7,11,12,13,21] rfl ?_)))))
  refine CW.cd rfl (fun hg=> ?_) (fun hg=> ?_)
  ·
   have hg':gone.contains (i:Int)=false:=by simpa using hg
   have hsn:=plainL_no (seed:=seed) hg'
   refine CW.rD (Sq.of (rg 0 9)) [6,7,9] [7,9] [0,2,3,4,5,8] mixed zi ?_
   first | refine RL.fa fa_34_0 rfl ?_ | refine RL.fG fa_34_0 rfl rfl ?_
   refine RL.load isAgg24 rfl (Rd.cel mQ rfl) ?_
   refine RL.q rfl (RL.p rfl (RL.callTq (plain_any seed (i:Int) (kindN i)) call71 rfl ?_))
   refine RL.buildSlice (plainS seed (i:Int) (kindN i)).cells runUnderlying24 sizeOf122 zeroValue122 rfl rfl zc zc rfl (fill_one48 hsl rfl) ?_
   intro b4
   refine RL.appendA el_24 rfl za (Src.cel (cs:=(plainS seed (i:Int) (kindN i)).cells) mQ hsl) (ones_spec (sr_ones _)) zd zd ?_
   intro ob1 cap1 ho1
   first | refine RL.fa fa_34_0 rfl ?_ | refine RL.fG fa_34_0 rfl rfl ?_
   refine RL.sX (vs:= [_]) cf_set sizeOf24 rfl rfl uE (by rw [hl45];show 0+0+1≤45;decide) ?_
   refine RL.ee (NQ.bb (NQ.ss (CW.ok [0,1,4,5,11,12,13] rfl (CW.rg (RL.bx rfl (wrapV_i64 zb zb) ?_)))))
   refine RL.p rfl (RL.ee ?_)
   refine NQ.rr (g:=(i,ob,cp,n)) (i+1,ob1,cap1,n+1) ⟨hlt,by rw [hsn];simp [hn]⟩ (by show 6 - (i+1) < 6 - i;omega) sE (fun w h=> h.rea (H':= [cel b2 ((plainC seed gone).cells (slO ob1 (n+1) cap1)) 34,own ob1 cap1 122 48 (n+1) ((plainL seed gone (i+1)).flatMap Sr.cells),cel b1 (zeroC.cells (.slice none 0 0)) 34]) (fun _ h=> h) (by rw [hsn,List.flatMap_append,List.flatMap_cons,List.flatMap_nil,List.append_nil];exact rE))
  ·
   refine CW.kk (NQ.bb (NQ.ss (CW.rg (RL.bx rfl (wrapV_i64 zb zb) ?_))))
   refine RL.p rfl (RL.ee ?_)
   have hg':gone.contains (i:Int)=true:=by simpa using hg
   have hsn:=plainL_yes (seed:=seed) hg'
   refine NQ.rr (g:=(i,ob,cp,n)) (i+1,ob,cp,n) ⟨hlt,by rw [hsn,hn]⟩ (by show 6 - (i+1) < 6 - i;omega) sE (fun w h=> by rw [hsn];exact h.rea (fun _ h=> h) rE)
 ·
  have hin:i=6:=by simp at hlt;omega
  subst hin
  refine CW.xx (XQ.ss (XQ.ss (XQ.hh (NQ.ss (CW.ok [4,5] rfl (CW.sg [1] [1] (RL.lW isAgg34 sizeOf34 rfl mQ (hl45 _) ?_)))))))
  refine RL.sW sizeOf34 rfl (cf_ones _ rfl) uE (hl45 _) rfl ?_
  refine RL.ns (CW.rr ?_)
  subst hn
  refine RQ.rea (fun _ h=> h) (H':= [own ob cp 122 48 (plainC seed gone).L.length ((plainC seed gone).L.flatMap Sr.cells),cel b1 ((plainC seed gone).cells (slO ob (plainC seed gone).L.length cp)) 34]) rE ?_
  exact RQ.pp (resW rfl rfl isAgg34 sizeOf34 mQ (hl45 _)) (.keep (Split.nn _)) ⟨ob,cp,rfl,rfl,rfl⟩
theorem plainS_fit (seed:B8) (id kd:Int):(plainS seed id kd).Fit:=by
 refine ⟨by rw [plainS_rt];exact rootB_len _ _, ?_, ?_, ?_⟩ <;> unfold plainS <;> (repeat' split) <;> simp [magS,aidS,noS,i64]
theorem plainL_fit (seed:B8) (gone:List Int) (i:Nat):∀s∈plainL seed gone i,s.Fit:=fun s hs=> by
 obtain ⟨j, -,rfl⟩:=List.mem_map.1 hs
 exact plainS_fit _ _ _
end Go.Proofs.YtkineolcmdecjaaGreat
