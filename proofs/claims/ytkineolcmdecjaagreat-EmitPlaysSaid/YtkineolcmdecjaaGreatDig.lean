import Derived.Test.YtkineolcmdecjaaGreatHB
import Derived.Test.YtkineolcmdecjaaGreatPC
import Derived.Test.YtkineolcmdecjaaGreatPD
namespace Go.Proofs.YtkineolcmdecjaaGreat
open Go.PK
end Go.Proofs.YtkineolcmdecjaaGreat
