import Derived.Test.YthgjgeapfndeeaaGreatDoorHB
import Derived.Test.YthgjgeapfndeeaaGreatDoorPC
import Derived.Test.YthgjgeapfndeeaaGreatDoorPD
set_option linter.unusedVariables false
set_option linter.unusedSimpArgs false
namespace Go.Proofs.YthgjgeapfndeeaaGreatDoor
open Go.PK
abbrev zeros : List B8 := List.replicate 32 0#8
end Go.Proofs.YthgjgeapfndeeaaGreatDoor
