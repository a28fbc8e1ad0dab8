import Derived.Test.YtkineolcmdecjaaGreatBase0
import Derived.Test.YtkineolcmdecjaaGreatPE
namespace Go.Proofs.YtkineolcmdecjaaGreat
open Go.PK
theorem fits8:∀ {k:List B8} {n:Nat},k.length=n→Fits (List.replicate n (.int .u8)) (bytes k)
 | [],_,rfl=> trivial
 | a::k,_,rfl=> by
  rw [List.length_cons,List.replicate_succ]
  exact ⟨⟨rfl,by have:=a.isLt;simp only [wfk,Lit.wf,IntKind.min,IntKind.max,IntKind.signed,IntKind.bits,Bool.and_eq_true,decide_eq_true_eq,Bool.false_eq_true,if_false];omega⟩,fits8 rfl⟩
theorem bytes_inj:∀ {a b:List B8},bytes a=bytes b→a=b
 | [], [],_=> rfl
 | [],_::_,h=> by cases h
 | _::_, [],h=> by cases h
 | x::a,y::b,h=> by
  simp only [bytes,List.map_cons,List.cons.injEq] at h
  have h2:=bytes_inj (a:=a) (b:=b) h.2
  have h1:=h.1
  simp [U8] at h1
  rw [h2,show x=y from BitVec.eq_of_toNat_eq (by omega)]
end Go.Proofs.YtkineolcmdecjaaGreat
