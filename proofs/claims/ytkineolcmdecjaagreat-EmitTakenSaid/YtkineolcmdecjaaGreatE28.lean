import Derived.Test.YtkineolcmdecjaaGreatEF
import Derived.Test.YtkineolcmdecjaaGreatKRd
namespace Go.Proofs.YtkineolcmdecjaaGreat
open Go.PK
open Tryz
structure Act33 where
 d:Int
 s:Int
 t:Int
 r:Rdg
 n:Int
def Act33.cells (a:Act33):List Value:= .int .i64 a.d:: .int .i64 a.s:: .int .i64 a.t::(a.r.cells++ [.int .u64 a.n])
structure Act33.Ok (a:Act33):Prop where
 r:a.r.Ok
 n:0≤a.n∧a.n≤18446744073709551615
theorem act33_len (a:Act33):a.cells.length=61:=rfl
theorem act33_r (a:Act33):∀(j:Nat) (u:Value),a.r.cells[j]? =some u→a.cells[0+3+j]? =some u:=fun j u hj=> by
 rw [show 0+3+j=j+1+1+1 by omega,Act33.cells]
 simp only [List.getElem?_cons_succ]
 rw [List.getElem?_append_left (List.getElem?_eq_some_iff.1 hj).1];exact hj
set_option maxRecDepth 100000
noncomputable def rAct33:Rdr prog 71 Act33:=
 Rdr.struct (fs := [Field.mk "Do" 3 0 false "" "" 0, Field.mk "Source" 3 1 false "" "" 8, Field.mk "Tick" 3 2 false "" "" 16, Field.mk "R" 69 3 false "" "" 24, Field.mk "By" 32 60 false "" "" 184].toArray) (tot := 61) (α := Int × Int × Int × Rdg × Int × Unit)
  zi zi
  (.cons (k:=1) rInt rfl zi zc (.cons (k:=1) rInt rfl zi zc (.cons (k:=1) rInt rfl zi zc (.cons (k:=57) rRdg rfl zi zc (.cons (k:=1) rU64 rfl zi zc .nil)))))
  Act33.cells (fun _=> []) Act33.Ok
  (fun ⟨d,s,t,r,n,_⟩ h=> by
   obtain ⟨h1,h2,h3,h4,h5, -⟩:=h
   refine ⟨⟨d,s,t,r,n⟩, ?_,⟨h4,wfk_bounds h5⟩,fun y hy=> by simp at hy⟩
   show _= [Value.int .i64 d]++([Value.int .i64 s]++([Value.int .i64 t]++(r.cells++([Value.int .u64 n]++ []))))
   simp [Act33.cells])
  (fun _ _=> rfl)
end Go.Proofs.YtkineolcmdecjaaGreat
