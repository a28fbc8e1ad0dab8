import Derived.Test.YtpaemkemknfmfaaGreatDoorDig
import Derived.Test.YtpaemkemknfmfaaGreatDoorPD
set_option linter.unusedVariables false
set_option linter.unusedSimpArgs false
namespace Go.Proofs.YtpaemkemknfmfaaGreatDoor
open Go.PK

end Go.Proofs.YtpaemkemknfmfaaGreatDoor
