/- Readers of this seat's types. -/
import Derived.Test.YtpokocnnaendaaaPkL
import Derived.Test.YtpokocnnaendaaaProg
import Derived.KernelRfl
namespace Go.Proofs.Ytpokocnnaendaaa
open Go.PK
noncomputable def rU8 : Rdr Try.prog 5 B8 := Rdr.u8 (by kernel_rfl) (by kernel_rfl)
noncomputable def rInt : Rdr Try.prog 3 Int := Rdr.int .i64 (by kernel_rfl) (by kernel_rfl)
noncomputable def rU64 : Rdr Try.prog 60 Int := Rdr.int .u64 (by kernel_rfl) (by kernel_rfl)
noncomputable def rStr : Rdr Try.prog 9 ByteArray := Rdr.string (by kernel_rfl) (by kernel_rfl)
noncomputable def rBytes : Rdr Try.prog 23 (Sl B8) := rU8.slice 1 (by kernel_rfl) (by kernel_rfl) (by kernel_rfl) (by decide) (List.map U8) (flat_one U8)
noncomputable def rInts : Rdr Try.prog 32 (Sl Int) := rInt.slice 1 (by kernel_rfl) (by kernel_rfl) (by kernel_rfl) (by decide) (List.map (Value.int .i64)) (flat_one _)
noncomputable def rParts : Rdr Try.prog 22 (Sl (Sl B8)) := rBytes.slice 1 (by kernel_rfl) (by kernel_rfl) (by kernel_rfl) (by decide) (List.map fun s => .slice s.p s.l.length s.c) (flat_one _)
noncomputable def rKey : Rdr Try.prog 50 (List B8) := rU8.array 32 1 (by kernel_rfl) (by kernel_rfl) (by kernel_rfl) (List.map U8) (flat_one U8)
noncomputable def rTag : Rdr Try.prog 67 (List B8) := rU8.array 16 1 (by kernel_rfl) (by kernel_rfl) (by kernel_rfl) (List.map U8) (flat_one U8)
end Go.Proofs.Ytpokocnnaendaaa
