/- Readers of plain values. -/
import Derived.Test.YtbdnebedmdoehaaGreatBase
import Derived.Test.YtbdnebedmdoehaaGreatBase0
import Derived.Test.YtbdnebedmdoehaaGreatProg
import Derived.KernelRfl
namespace Go.Proofs.YtbdnebedmdoehaaGreat
open Go.PK
noncomputable def rU8 : Rdr Tryz.prog 5 B8 := Rdr.u8 (by kernel_rfl) (by kernel_rfl)
noncomputable def rInt : Rdr Tryz.prog 3 Int := Rdr.int .i64 (by kernel_rfl) (by kernel_rfl)
noncomputable def rU32 : Rdr Tryz.prog 24 Int := Rdr.int .u32 (by kernel_rfl) (by kernel_rfl)
noncomputable def rBool : Rdr Tryz.prog 4 Bool := Rdr.bool (by kernel_rfl) (by kernel_rfl)
noncomputable def rKey : Rdr Tryz.prog 23 (List B8) := rU8.array 32 1 (by kernel_rfl) (by kernel_rfl) (by kernel_rfl) (List.map U8) (flat_one U8)
end Go.Proofs.YtbdnebedmdoehaaGreat
