import Derived.Test.YtkineolcmdecjaaGreatBase0
import Derived.Test.YtkineolcmdecjaaGreatPC
namespace Go.Proofs.YtkineolcmdecjaaGreat
open Go.PK
open Tryz
def goodI (v:Value):Prop:=∃n,v= .int .i64 n
theorem keyI:KeyT prog 3 goodI where
 desc:=⟨_,runUnderlying3,fun a b ha hb=> by
  obtain ⟨m,rfl⟩:=ha;obtain ⟨n,rfl⟩:=hb
  by_cases h:m=n <;> simp [Instr.sameNow,same,h]⟩
 eq:=by
  rintro _ _ ⟨a,rfl⟩ ⟨c,rfl⟩ w
  by_cases h:a=c <;> simp [Op.equal,Op.maxDepth,same,h,Go.part,go_sem]
 chk:=by
  rintro _ ⟨a,rfl⟩ e w
  have:∀n,(Instr.checkKey e (n+2) 3 (.int .i64 a)).run prog w= .ok () w:=by
   intro n
   simp [Instr.checkKey,Go.part,go_sem]
  exact this 9998
 bits:=by
  rintro _ ⟨a,rfl⟩
  simp [Instr.sameBits]
theorem setV_absent {k v:Value}:∀ {c:List (Value×Value)},lookV k c=none→setV k v c=c++ [(k,v)]
 | [],_=> rfl
 | (a,u)::c,h=> by
  rw [lookV] at h
  split at h
  ·cases h
  ·next hn=> rw [setV,if_neg hn,setV_absent h];rfl
end Go.Proofs.YtkineolcmdecjaaGreat
