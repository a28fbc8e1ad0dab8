import Derived.Test.YtkineolcmdecjaaGreatHB
import Derived.Test.YtkineolcmdecjaaGreatPC
import Derived.Test.YtkineolcmdecjaaGreatPD
namespace Go.Proofs.YtkineolcmdecjaaGreat
open Go.PK
abbrev zeros:List B8:=List.replicate 32 0#8
end Go.Proofs.YtkineolcmdecjaaGreat
