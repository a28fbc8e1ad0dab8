import Derived.Test.YthndhipjfdgdfaaGreatDoorPX
set_option linter.unusedVariables false
set_option linter.unusedSimpArgs false
namespace Go.Proofs.YthndhipjfdgdfaaGreatDoor
open Go.PK
/-! ### A plan cut down to what the law takes -/
structure FewOk (F : Pl) : Prop where
  cm : F.cf.cm.length = 32
  L : ∀ s ∈ F.cf.L, s.All
  nl : F.cf.L.length ≤ 12
  nz : F.zs.length ≤ 12
  z : ∀ z ∈ F.zs, z.All ∧ z.L.length ≤ 20
  n : ∀ v ∈ F.nums, i64 v
  sd : 0 ≤ F.cf.sd ∧ F.cf.sd < 18446744073709551616
theorem Sr.All.fit {s : Sr} (h : s.All) : s.Fit := ⟨h.rt, h.n _ (by simp [Sr.nums]), h.n _ (by simp [Sr.nums]), h.n _ (by simp [Sr.nums])⟩
theorem FewOk.rt {F : Pl} (h : FewOk F) : ∀ s ∈ F.cf.L, s.rt.length = 32 := fun s hs => (h.L s hs).rt
theorem FewOk.all {F : Pl} (h : FewOk F) : F.All := ⟨h.n, h.sd, h.L, fun z hz => (h.z z hz).1, Nat.le_trans h.nl (by decide), Nat.le_trans h.nz (by decide)⟩
theorem FewOk.fit {F : Pl} (h : FewOk F) {YL : List ZO} (hz : YL.map (·.1) = F.zs) : F.Fit YL where
  cf := ⟨h.cm, fun s hs => (h.L s hs).fit⟩
  zl := hz
  nl := Nat.le_trans h.nl (by decide)
  nz := Nat.le_trans h.nz (by decide)
  np := fun z hm => Nat.le_trans (h.z z.1 (by rw [← hz]; exact List.mem_map_of_mem hm)).2 (by decide)
theorem few_ok {x : PlA} (hx : x.Ok) : FewOk x.P.few where
  cm := hx.cf.cm
  L := fun s hs => hx.cf.L s (List.mem_of_mem_take hs)
  nl := by show (x.P.cf.L.take 12).length ≤ 12; rw [List.length_take]; omega
  nz := by show ((x.P.zs.take 12).map Zn.few).length ≤ 12; rw [List.length_map, List.length_take]; omega
  z := fun z hz => by
    obtain ⟨y, hy, rfl⟩ := List.mem_map.1 hz
    have hy := List.mem_of_mem_take hy
    rw [← hx.zl] at hy
    obtain ⟨a, ha, rfl⟩ := List.mem_map.1 hy
    have hk := hx.z a ha
    have hl : (a.1.L.take 20).length ≤ 20 := by rw [List.length_take]; omega
    exact ⟨⟨hk.n.1, hk.n.2, fun p hp => hk.L p (List.mem_of_mem_take hp), Nat.le_trans hl (by decide)⟩, hl⟩
  n := fun v hv => by
    have hv : v ∈ [x.P.cf.g0, x.P.cf.g1, x.P.cf.g2, x.P.cf.dr, x.P.cf.sc.st, x.P.cf.sc.ln, x.P.cf.sc.lg, x.P.cf.sc.of, x.P.cf.mo, x.P.cf.ti, x.P.cf.gr] ++ [x.P.de, x.P.ra, x.P.mo, x.P.sz] := hv
    rcases List.mem_append.1 hv with hv | hv
    · exact hx.cf.n v hv
    · simp only [List.mem_cons, List.not_mem_nil, or_false] at hv
      rcases hv with rfl | rfl | rfl | rfl
      · exact hx.n.1
      · exact hx.n.2.1
      · exact hx.n.2.2.1
      · exact hx.n.2.2.2
  sd := hx.cf.sd
end Go.Proofs.YthndhipjfdgdfaaGreatDoor
