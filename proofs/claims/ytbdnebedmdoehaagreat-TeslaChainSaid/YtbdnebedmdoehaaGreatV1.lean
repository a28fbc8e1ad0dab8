import Derived.Test.YtbdnebedmdoehaaGreatSC
namespace Go.Proofs.YtbdnebedmdoehaaGreat
open Go.PK
/-! ### A receiver that no call made -/
end Go.Proofs.YtbdnebedmdoehaaGreat
