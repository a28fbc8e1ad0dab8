/- Readers of plain values. -/
import Derived.Test.YtggmnhogmjglmaaBase0
import Derived.Test.YtggmnhogmjglmaaProg
import Derived.KernelRfl
namespace Go.Proofs.Ytggmnhogmjglmaa
open Go.PK
noncomputable def rU8 : Rdr Try.prog 5 B8 := Rdr.u8 (by kernel_rfl) (by kernel_rfl)
noncomputable def rInt : Rdr Try.prog 3 Int := Rdr.int .i64 (by kernel_rfl) (by kernel_rfl)
noncomputable def rU32 : Rdr Try.prog 26 Int := Rdr.int .u32 (by kernel_rfl) (by kernel_rfl)
noncomputable def rBool : Rdr Try.prog 4 Bool := Rdr.bool (by kernel_rfl) (by kernel_rfl)
end Go.Proofs.Ytggmnhogmjglmaa
