import Derived.Test.YtbdnebedmdoehaaGreatHB
import Derived.Test.YtbdnebedmdoehaaGreatPC
import Derived.Test.YtbdnebedmdoehaaGreatPD
namespace Go.Proofs.YtbdnebedmdoehaaGreat
open Go.PK
end Go.Proofs.YtbdnebedmdoehaaGreat
