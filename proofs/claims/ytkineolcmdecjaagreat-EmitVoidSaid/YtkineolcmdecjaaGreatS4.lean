import Derived.Test.YtkineolcmdecjaaGreatFA
import Derived.Test.YtkineolcmdecjaaGreatCB
namespace Go.Proofs.YtkineolcmdecjaaGreat
open Go.PK
/-! ### Signed -/
end Go.Proofs.YtkineolcmdecjaaGreat
