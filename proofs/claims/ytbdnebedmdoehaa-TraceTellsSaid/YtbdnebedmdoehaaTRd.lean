/- Readers of entries. -/
import Derived.Test.YtbdnebedmdoehaaT3
import Derived.Test.YtbdnebedmdoehaaProg
import Derived.KernelRfl
namespace Go.Proofs.Ytbdnebedmdoehaa
open Go.PK
noncomputable def rU8 : Rdr Try.prog 5 B8 := Rdr.u8 (by kernel_rfl) (by kernel_rfl)
noncomputable def rInt : Rdr Try.prog 3 Int := Rdr.int .i64 (by kernel_rfl) (by kernel_rfl)
noncomputable def rBool : Rdr Try.prog 4 Bool := Rdr.bool (by kernel_rfl) (by kernel_rfl)
set_option maxRecDepth 100000
noncomputable def rEnt : Rdr Try.prog 83 Ent :=
  Rdr.struct (fs := [Field.mk "Tick" 3 0 false "" "" 0, Field.mk "Kind" 3 1 false "" "" 8, Field.mk "Source" 3 2 false "" "" 16, Field.mk "E" 3 3 false "" "" 24].toArray) (tot := 4) (α := Int × Int × Int × Int × Unit)
    (by kernel_rfl) (by kernel_rfl)
    (.cons (k := 1) rInt rfl (by kernel_rfl) (by decide) (.cons (k := 1) rInt rfl (by kernel_rfl) (by decide) (.cons (k := 1) rInt rfl (by kernel_rfl) (by decide) (.cons (k := 1) rInt rfl (by kernel_rfl) (by decide) .nil))))
    Ent.cells (fun _ => []) (fun _ => True)
    (fun ⟨a, b, c, d, _⟩ _ => ⟨⟨a, b, c, d⟩, rfl, trivial, by simp⟩)
    (fun _ _ => rfl)
noncomputable def rEnts : Rdr Try.prog 79 (Sl Ent) := rEnt.slice 4 (by kernel_rfl) (by kernel_rfl) (by kernel_rfl) (by decide) entsV (fun _ => rfl)
end Go.Proofs.Ytbdnebedmdoehaa
