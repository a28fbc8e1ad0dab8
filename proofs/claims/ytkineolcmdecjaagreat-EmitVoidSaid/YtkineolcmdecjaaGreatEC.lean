import Derived.Test.YtkineolcmdecjaaGreatEB
import Derived.Test.YtkineolcmdecjaaGreatUC
import Derived.Test.YtkineolcmdecjaaGreatS4
import Derived.Test.YtkineolcmdecjaaGreatEE
namespace Go.Proofs.YtkineolcmdecjaaGreat
open Go.PK
/-! ### The source of messages -/
end Go.Proofs.YtkineolcmdecjaaGreat

namespace Go.Proofs.YtkineolcmdecjaaGreat
open Go.PK
/-! ### Messages and keys are sent -/
def SentQ (z : Crw) (T : List Snd) (f : Fr) : Value → List It → List It → Prop := fun v I' H' => ∃ rb rc bo bc so soc E', v = .tuple #[slO rb (frB f).length rc, .int .i64 0] ∧ I' = [] ∧ H' = [crwI ((z.setT T).put ⟨f, bo, bc⟩ so soc E'), own rb rc 5 1 (frB f).length (bytes (frB f))] ∧ SOk E' (z.l ++ [⟨f, bo, bc⟩])
end Go.Proofs.YtkineolcmdecjaaGreat

namespace Go.Proofs.YtkineolcmdecjaaGreat
open Go.PK
/-! ### Keys are sent -/
end Go.Proofs.YtkineolcmdecjaaGreat
