/- Readers of this law's arguments. -/
import Derived.Test.YtcnefidknaobhaaGreatPD
import Derived.Test.YtcnefidknaobhaaGreatProg
import Derived.KernelRfl
set_option linter.unusedVariables false
set_option linter.unusedSimpArgs false
namespace Go.Proofs.YtcnefidknaobhaaGreat
open Go.PK
noncomputable def rU8 : Rdr Tryz.prog 5 B8 := Rdr.u8 (by kernel_rfl) (by kernel_rfl)
noncomputable def rInt : Rdr Tryz.prog 3 Int := Rdr.int .i64 (by kernel_rfl) (by kernel_rfl)
noncomputable def rBytes : Rdr Tryz.prog 22 (Sl B8) := rU8.slice 1 (by kernel_rfl) (by kernel_rfl) (by kernel_rfl) (by decide) (List.map U8) (flat_one U8)
end Go.Proofs.YtcnefidknaobhaaGreat
