/- Readers of frames. -/
import Derived.Test.YtbdnebedmdoehaaGreatKRd
import Derived.Test.YtbdnebedmdoehaaGreatFr0
namespace Go.Proofs.YtbdnebedmdoehaaGreat
open Go.PK
noncomputable def rU64 : Rdr Tryz.prog 25 Int := Rdr.int .u64 (by kernel_rfl) (by kernel_rfl)
noncomputable def rBytes : Rdr Tryz.prog 26 (Sl B8) := rU8.slice 1 (by kernel_rfl) (by kernel_rfl) (by kernel_rfl) (by decide) (List.map U8) (flat_one U8)
noncomputable def rTag : Rdr Tryz.prog 28 (List B8) := rU8.array 16 1 (by kernel_rfl) (by kernel_rfl) (by kernel_rfl) (List.map U8) (flat_one U8)
set_option maxRecDepth 100000
noncomputable def rFr : Rdr Tryz.prog 30 FrA :=
  Rdr.struct (fs := [Field.mk "Kind" 3 0 false "" "" 0, Field.mk "Source" 3 1 false "" "" 8, Field.mk "Epoch" 24 2 false "" "" 16, Field.mk "Counter" 25 3 false "" "" 24, Field.mk "Body" 26 4 false "" "" 32, Field.mk "Tag" 28 5 false "" "" 56].toArray) (tot := 21) (α := Int × Int × Int × Int × Sl B8 × List B8 × Unit)
    (by kernel_rfl) (by kernel_rfl)
    (.cons (k := 1) rInt rfl (by kernel_rfl) (by decide) (.cons (k := 1) rInt rfl (by kernel_rfl) (by decide) (.cons (k := 1) rU32 rfl (by kernel_rfl) (by decide) (.cons (k := 1) rU64 rfl (by kernel_rfl) (by decide) (.cons (k := 1) rBytes rfl (by kernel_rfl) (by decide) (.cons (k := 16) rTag rfl (by kernel_rfl) (by decide) .nil))))))
    (fun x => x.f.cells x.sl) (fun x => [sls x.p 1 x.f.b.length (bytes x.f.b)]) FrA.Ok
    (fun ⟨kd, sr, ep, ct, s, tg, _⟩ h => by
      obtain ⟨h1, h2, h3, h4, h5, h6, -⟩ := h
      obtain ⟨h6, h6'⟩ := h6
      obtain ⟨h5, h5', -⟩ := h5
      have h5 : s.l.length ≤ s.c := h5
      have h5' : s.c ≤ maxLen := h5'
      have hb := wfk_bounds h3
      have hb : 0 ≤ ep ∧ ep ≤ 4294967295 := hb
      have hc := wfk_bounds h4
      have hc : 0 ≤ ct ∧ ct ≤ 18446744073709551615 := hc
      refine ⟨⟨⟨kd, sr, ep.toNat, ct.toNat, s.l, tg⟩, s.p, s.c⟩, ?_, ⟨⟨by show ep.toNat < _; omega, by show ct.toNat < _; omega, h6⟩, h5, Nat.le_trans h5 h5'⟩, ?_⟩
      · show _ = [Value.int .i64 kd] ++ ([Value.int .i64 sr] ++ ([Value.int .u32 ep] ++ ([Value.int .u64 ct] ++ ([Value.slice s.p s.l.length s.c] ++ (bytes tg ++ [])))))
        simp [Fr.cells, Int.toNat_of_nonneg hb.1, Int.toNat_of_nonneg hc.1]
      · intro y hy
        rw [List.mem_singleton.1 hy]
        simp [Flds.cons, rBytes, Rdr.slice])
    (fun x h => fr_len h.f.tag _)
end Go.Proofs.YtbdnebedmdoehaaGreat
