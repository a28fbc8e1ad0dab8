import Derived.Test.YtbdnebedmdoehaaGreatV1
import Derived.Test.YtbdnebedmdoehaaGreatFRd
namespace Go.Proofs.YtbdnebedmdoehaaGreat
open Go.PK
/-! ### Readers -/
structure Act21 where
  d : Int
  t : Int
  iv : Int
  sq : Int
  at_ : Int
  sg : Bool
  rw_ : Bool
  tn : Int
  x : FrA
  k : List B8
def Act21.cells (a : Act21) : List Value := .int .i64 a.d :: .int .i64 a.t :: .int .u32 a.iv :: .int .u8 a.sq :: .int .i64 a.at_ :: .bool a.sg :: .bool a.rw_ :: .int .u8 a.tn :: (a.x.f.cells a.x.sl ++ bytes a.k)
structure Act21.Ok (a : Act21) : Prop where
  x : a.x.Ok
  k : a.k.length = 32
  iv : 0 ≤ a.iv ∧ a.iv ≤ 4294967295
  sq : 0 ≤ a.sq ∧ a.sq ≤ 255
  tn : 0 ≤ a.tn ∧ a.tn ≤ 255
  t : wfk .i64 a.t
  p : wfk .i64 a.at_
theorem act21_len {a : Act21} (h : a.Ok) : a.cells.length = 61 := by
  have := fr_len h.x.f.tag a.x.sl
  simp [Act21.cells, this, h.k]
abbrev Act21.its (a : Act21) : List It := [sls a.x.p 1 a.x.f.b.length (bytes a.x.f.b)]
noncomputable def rU8i : Rdr Tryz.prog 5 Int := Rdr.int .u8 (by kernel_rfl) (by kernel_rfl)
noncomputable def rFix : Rdr Tryz.prog 45 Int := Rdr.int .i64 (by kernel_rfl) (by kernel_rfl)
set_option maxRecDepth 100000
noncomputable def rAct21 : Rdr Tryz.prog 47 Act21 :=
  Rdr.struct (fs := [Field.mk "Do" 3 0 false "" "" 0, Field.mk "Tick" 3 1 false "" "" 8, Field.mk "Interval" 24 2 false "" "" 16, Field.mk "Seq" 5 3 false "" "" 20, Field.mk "At" 45 4 false "" "" 24, Field.mk "Signed" 4 5 false "" "" 32, Field.mk "Raw" 4 6 false "" "" 33, Field.mk "Turn" 5 7 false "" "" 34, Field.mk "F" 30 8 false "" "" 40, Field.mk "Key" 23 29 false "" "" 112].toArray) (tot := 61) (α := Int × Int × Int × Int × Int × Bool × Bool × Int × FrA × List B8 × Unit)
    (by kernel_rfl) (by kernel_rfl)
    (.cons (k := 1) rInt rfl (by kernel_rfl) (by decide) (.cons (k := 1) rInt rfl (by kernel_rfl) (by decide) (.cons (k := 1) rU32 rfl (by kernel_rfl) (by decide) (.cons (k := 1) rU8i rfl (by kernel_rfl) (by decide) (.cons (k := 1) rFix rfl (by kernel_rfl) (by decide) (.cons (k := 1) rBool rfl (by kernel_rfl) (by decide) (.cons (k := 1) rBool rfl (by kernel_rfl) (by decide) (.cons (k := 1) rU8i rfl (by kernel_rfl) (by decide) (.cons (k := 21) rFr rfl (by kernel_rfl) (by decide) (.cons (k := 32) rKey rfl (by kernel_rfl) (by decide) .nil))))))))))
    Act21.cells Act21.its Act21.Ok
    (fun ⟨d, t, iv, sq, p, sg, rw_, tn, x, k, _⟩ h => by
      obtain ⟨h1, h2, h3, h4, h5, h6, h7, h8, h9, h10, -⟩ := h
      refine ⟨⟨d, t, iv, sq, p, sg, rw_, tn, x, k⟩, ?_, ⟨h9, h10.1, wfk_bounds h3, wfk_bounds h4, wfk_bounds h8, h2, h5⟩, ?_⟩
      · show _ = [Value.int .i64 d] ++ ([Value.int .i64 t] ++ ([Value.int .u32 iv] ++ ([Value.int .u8 sq] ++ ([Value.int .i64 p] ++ ([Value.bool sg] ++ ([Value.bool rw_] ++ ([Value.int .u8 tn] ++ (x.f.cells x.sl ++ (bytes k ++ [])))))))))
        simp [Act21.cells]
      · intro y hy
        rw [List.mem_singleton.1 hy]
        simp [Flds.cons, rFr, Rdr.struct])
    (fun _ h => act21_len h)
end Go.Proofs.YtbdnebedmdoehaaGreat
