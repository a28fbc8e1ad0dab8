import Derived.Test.YtkineolcmdecjaaGreatBA
import Derived.Test.YtkineolcmdecjaaGreatPD
import Derived.Test.YtkineolcmdecjaaGreatRA
namespace Go.Proofs.YtkineolcmdecjaaGreat
open Go.PK
def Fr.same (f g:Fr):Bool:=f.kd==g.kd && (f.sr==g.sr && (f.ep==g.ep && (f.ct==g.ct && (f.b==g.b && f.tag==g.tag))))
theorem same_iff {f g:Fr}:f.same g=true↔f=g:=by
 obtain ⟨a,b,c,d,e,h⟩:=f
 obtain ⟨a',b',c',d',e',h'⟩:=g
 simp [Fr.same]
end Go.Proofs.YtkineolcmdecjaaGreat
