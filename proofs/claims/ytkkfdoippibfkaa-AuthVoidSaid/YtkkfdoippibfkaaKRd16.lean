/- Readers of a ring's acts. -/
import Derived.Test.YtkkfdoippibfkaaBase
import Derived.Test.YtkkfdoippibfkaaProg
import Derived.KernelRfl
namespace Go.Proofs.Ytkkfdoippibfkaa
open Go.PK
noncomputable def rU8 : Rdr Try.prog 5 B8 := Rdr.u8 (by kernel_rfl) (by kernel_rfl)
noncomputable def rInt : Rdr Try.prog 3 Int := Rdr.int .i64 (by kernel_rfl) (by kernel_rfl)
noncomputable def rU32 : Rdr Try.prog 31 Int := Rdr.int .u32 (by kernel_rfl) (by kernel_rfl)
noncomputable def rBool : Rdr Try.prog 4 Bool := Rdr.bool (by kernel_rfl) (by kernel_rfl)
noncomputable def rKey : Rdr Try.prog 35 (List B8) := rU8.array 32 1 (by kernel_rfl) (by kernel_rfl) (by kernel_rfl) (List.map U8) (flat_one U8)
/-- A call of a ring. -/
structure Act16 where
  d : Int
  s : Int
  k : List B8
  e : Nat
  nr : Bool
  t : Int
  g : Int
def Act16.cells (a : Act16) : List Value := .int .i64 a.d :: .int .i64 a.s :: (bytes a.k ++ [.int .u32 (a.e : Int), .bool a.nr, .int .i64 a.t, .int .i64 a.g])
structure Act16.Ok (a : Act16) : Prop where
  k : a.k.length = 32
  e : a.e < 4294967296
  t : -9223372036854775808 ≤ a.t ∧ a.t ≤ 9223372036854775807
theorem act16_len {a : Act16} (h : a.Ok) : a.cells.length = 38 := by simp [Act16.cells, h.k]
set_option maxRecDepth 100000
noncomputable def rAct16 : Rdr Try.prog 38 Act16 :=
  Rdr.struct (fs := [Field.mk "Do" 3 0 false "" "" 0, Field.mk "Source" 3 1 false "" "" 8, Field.mk "Root" 35 2 false "" "" 16, Field.mk "Epoch" 31 34 false "" "" 48, Field.mk "Near" 4 35 false "" "" 52, Field.mk "Tick" 3 36 false "" "" 56, Field.mk "Grace" 3 37 false "" "" 64].toArray) (tot := 38) (α := Int × Int × List B8 × Int × Bool × Int × Int × Unit)
    (by kernel_rfl) (by kernel_rfl)
    (.cons (k := 1) rInt rfl (by kernel_rfl) (by decide) (.cons (k := 1) rInt rfl (by kernel_rfl) (by decide) (.cons (k := 32) rKey rfl (by kernel_rfl) (by decide) (.cons (k := 1) rU32 rfl (by kernel_rfl) (by decide) (.cons (k := 1) rBool rfl (by kernel_rfl) (by decide) (.cons (k := 1) rInt rfl (by kernel_rfl) (by decide) (.cons (k := 1) rInt rfl (by kernel_rfl) (by decide) .nil)))))))
    Act16.cells (fun _ => []) Act16.Ok
    (fun ⟨d, s, k, e, nr, t, g, _⟩ h => by
      obtain ⟨h1, h2, h3, h4, h5, h6, h7, -⟩ := h
      obtain ⟨h3, h3'⟩ := h3
      have hb := wfk_bounds h4
      have hb : 0 ≤ e ∧ e ≤ 4294967295 := hb
      refine ⟨⟨d, s, k, e.toNat, nr, t, g⟩, ?_, ⟨h3, by show e.toNat < _; omega, wfk_bounds h6⟩, by simp⟩
      show _ = [Value.int .i64 d] ++ ([Value.int .i64 s] ++ (bytes k ++ ([Value.int .u32 e] ++ ([Value.bool nr] ++ ([Value.int .i64 t] ++ ([Value.int .i64 g] ++ []))))))
      simp [Act16.cells, Int.toNat_of_nonneg hb.1])
    (fun _ h => act16_len h)
noncomputable def rActs16 : Rdr Try.prog 22 (Sl Act16) := rAct16.slice 38 (by kernel_rfl) (by kernel_rfl) (by kernel_rfl) (by decide) (List.flatMap Act16.cells) (fun _ => rfl)
end Go.Proofs.Ytkkfdoippibfkaa
