import Derived.Test.YtbdnebedmdoehaaU18
import Derived.Test.YtbdnebedmdoehaaProg
import Derived.KernelRfl
namespace Go.Proofs.Ytbdnebedmdoehaa
open Go.PK
/-! ### Readers; the law SetupTells -/
noncomputable def rU8 : Rdr Try.prog 5 B8 := Rdr.u8 (by kernel_rfl) (by kernel_rfl)
noncomputable def rInt : Rdr Try.prog 3 Int := Rdr.int .i64 (by kernel_rfl) (by kernel_rfl)
noncomputable def rFix : Rdr Try.prog 24 Int := Rdr.int .i64 (by kernel_rfl) (by kernel_rfl)
noncomputable def rU64 : Rdr Try.prog 31 Int := Rdr.int .u64 (by kernel_rfl) (by kernel_rfl)
noncomputable def rKey : Rdr Try.prog 30 (List B8) := rU8.array 32 1 (by kernel_rfl) (by kernel_rfl) (by kernel_rfl) (List.map U8) (flat_one U8)
noncomputable def rVec : Rdr Try.prog 26 (List Int) := rFix.array 3 1 (by kernel_rfl) (by kernel_rfl) (by kernel_rfl) (List.map (Value.int .i64)) (flat_one (Value.int .i64))
set_option maxRecDepth 100000
noncomputable def rGate : Rdr Try.prog 53 (Int × Int × Int) :=
  Rdr.struct (fs := [Field.mk "Open" 24 0 false "" "" 0, Field.mk "Grow" 24 1 false "" "" 8, Field.mk "Most" 24 2 false "" "" 16].toArray) (tot := 3) (α := Int × Int × Int × Unit)
    (by kernel_rfl) (by kernel_rfl)
    (.cons (k := 1) rFix rfl (by kernel_rfl) (by decide) (.cons (k := 1) rFix rfl (by kernel_rfl) (by decide) (.cons (k := 1) rFix rfl (by kernel_rfl) (by decide) .nil)))
    (fun g => [.int .i64 g.1, .int .i64 g.2.1, .int .i64 g.2.2]) (fun _ => []) (fun g => i64 g.2.2)
    (fun ⟨a, b, c, _⟩ h => ⟨⟨a, b, c⟩, rfl, wfk_bounds h.2.2.1, by simp⟩)
    (fun _ _ => rfl)
structure Wt.Fit (x : Wt) : Prop where
  mo : i64 x.mo
  sl : i64 x.sl
  gm : i64 x.gm
noncomputable def rWt : Rdr Try.prog 55 Wt :=
  Rdr.struct (fs := [Field.mk "Gate" 53 0 false "" "" 0, Field.mk "Slack" 24 3 false "" "" 24, Field.mk "Most" 24 4 false "" "" 32, Field.mk "Same" 3 5 false "" "" 40, Field.mk "Rate" 24 6 false "" "" 48, Field.mk "Bad" 3 7 false "" "" 56, Field.mk "Hold" 3 8 false "" "" 64, Field.mk "Prove" 3 9 false "" "" 72].toArray) (tot := 10) (α := (Int × Int × Int) × Int × Int × Int × Int × Int × Int × Int × Unit)
    (by kernel_rfl) (by kernel_rfl)
    (.cons (k := 3) rGate rfl (by kernel_rfl) (by decide) (.cons (k := 1) rFix rfl (by kernel_rfl) (by decide) (.cons (k := 1) rFix rfl (by kernel_rfl) (by decide) (.cons (k := 1) rInt rfl (by kernel_rfl) (by decide) (.cons (k := 1) rFix rfl (by kernel_rfl) (by decide) (.cons (k := 1) rInt rfl (by kernel_rfl) (by decide) (.cons (k := 1) rInt rfl (by kernel_rfl) (by decide) (.cons (k := 1) rInt rfl (by kernel_rfl) (by decide) .nil))))))))
    Wt.cells (fun _ => []) Wt.Fit
    (fun ⟨⟨a, b, c⟩, sl, mo, sa, ra, ba, ho, pr, _⟩ h => ⟨⟨a, b, c, sl, mo, sa, ra, ba, ho, pr⟩, rfl, ⟨wfk_bounds h.2.2.1, wfk_bounds h.2.1, h.1⟩, by simp⟩)
    (fun _ _ => rfl)
noncomputable def rSch : Rdr Try.prog 28 Sch :=
  Rdr.struct (fs := [Field.mk "Start" 3 0 false "" "" 0, Field.mk "Length" 3 1 false "" "" 8, Field.mk "Lag" 3 2 false "" "" 16, Field.mk "Off" 3 3 false "" "" 24].toArray) (tot := 4) (α := Int × Int × Int × Int × Unit)
    (by kernel_rfl) (by kernel_rfl)
    (.cons (k := 1) rInt rfl (by kernel_rfl) (by decide) (.cons (k := 1) rInt rfl (by kernel_rfl) (by decide) (.cons (k := 1) rInt rfl (by kernel_rfl) (by decide) (.cons (k := 1) rInt rfl (by kernel_rfl) (by decide) .nil))))
    Sch.cells (fun _ => []) (fun _ => True)
    (fun ⟨a, b, c, d, _⟩ _ => ⟨⟨a, b, c, d⟩, rfl, trivial, by simp⟩)
    (fun _ _ => rfl)
noncomputable def rSr : Rdr Try.prog 57 Sr :=
  Rdr.struct (fs := [Field.mk "ID" 3 0 false "" "" 0, Field.mk "Kind" 3 1 false "" "" 8, Field.mk "Root" 30 2 false "" "" 16, Field.mk "Weight" 3 34 false "" "" 48, Field.mk "Gain" 3 35 false "" "" 56, Field.mk "Step" 24 36 false "" "" 64, Field.mk "Horizon" 3 37 false "" "" 72, Field.mk "Watch" 55 38 false "" "" 80].toArray) (tot := 48) (α := Int × Int × List B8 × Int × Int × Int × Int × Wt × Unit)
    (by kernel_rfl) (by kernel_rfl)
    (.cons (k := 1) rInt rfl (by kernel_rfl) (by decide) (.cons (k := 1) rInt rfl (by kernel_rfl) (by decide) (.cons (k := 32) rKey rfl (by kernel_rfl) (by decide) (.cons (k := 1) rInt rfl (by kernel_rfl) (by decide) (.cons (k := 1) rInt rfl (by kernel_rfl) (by decide) (.cons (k := 1) rFix rfl (by kernel_rfl) (by decide) (.cons (k := 1) rInt rfl (by kernel_rfl) (by decide) (.cons (k := 10) rWt rfl (by kernel_rfl) (by decide) .nil))))))))
    Sr.cells (fun _ => []) Sr.Fit
    (fun ⟨id, kd, k, w, g, st, hz, wt, _⟩ h => by
      obtain ⟨h1, h2, h3, h4, h5, h6, h7, h8, -⟩ := h
      have h8 : Wt.Fit wt := h8
      refine ⟨⟨id, kd, k, w, g, st, hz, wt⟩, ?_, ⟨h3.1, h8.mo, h8.sl, h8.gm⟩, by simp⟩
      show _ = [Value.int .i64 id] ++ ([Value.int .i64 kd] ++ (bytes k ++ ([Value.int .i64 w] ++ ([Value.int .i64 g] ++ ([Value.int .i64 st] ++ ([Value.int .i64 hz] ++ (wt.cells ++ [])))))))
      simp [Sr.cells, Sr.tl])
    (fun _ h => sr_len h.rt)
noncomputable def rSrs : Rdr Try.prog 23 (Sl Sr) := rSr.slice 48 (by kernel_rfl) (by kernel_rfl) (by kernel_rfl) (by decide) (fun l => l.flatMap Sr.cells) (fun _ => rfl)
structure CfA where
  c : Cf
  p : Option Addr
  cap : Nat
structure CfA.Ok (x : CfA) : Prop where
  f : x.c.Fit
  l : x.c.L.length ≤ x.cap
  b : x.c.L.length ≤ maxLen
abbrev CfA.sl (x : CfA) : Value := .slice x.p x.c.L.length x.cap
noncomputable def rCf : Rdr Try.prog 33 CfA :=
  Rdr.struct (fs := [Field.mk "Sources" 23 0 false "" "" 0, Field.mk "Gravity" 26 1 false "" "" 24, Field.mk "Drift" 24 4 false "" "" 48, Field.mk "Slot" 28 5 false "" "" 56, Field.mk "Commit" 30 9 false "" "" 88, Field.mk "Most" 3 41 false "" "" 120, Field.mk "Time" 3 42 false "" "" 128, Field.mk "Grace" 3 43 false "" "" 136, Field.mk "Stride" 31 44 false "" "" 144].toArray) (tot := 45) (α := Sl Sr × List Int × Int × Sch × List B8 × Int × Int × Int × Int × Unit)
    (by kernel_rfl) (by kernel_rfl)
    (.cons (k := 1) rSrs rfl (by kernel_rfl) (by decide) (.cons (k := 3) rVec rfl (by kernel_rfl) (by decide) (.cons (k := 1) rFix rfl (by kernel_rfl) (by decide) (.cons (k := 4) rSch rfl (by kernel_rfl) (by decide) (.cons (k := 32) rKey rfl (by kernel_rfl) (by decide) (.cons (k := 1) rInt rfl (by kernel_rfl) (by decide) (.cons (k := 1) rInt rfl (by kernel_rfl) (by decide) (.cons (k := 1) rInt rfl (by kernel_rfl) (by decide) (.cons (k := 1) rU64 rfl (by kernel_rfl) (by decide) .nil)))))))))
    (fun x => x.c.cells x.sl) (fun x => [sls x.p 48 x.c.L.length (x.c.L.flatMap Sr.cells)]) CfA.Ok
    (fun ⟨s, v, dr, sc, cm, mo, ti, gr, sd, _⟩ h => by
      obtain ⟨⟨h1, h1', -, h1f⟩, h2, h3, h4, h5, h6, h7, h8, h9, -⟩ := h
      have h1 : s.l.length ≤ s.c := h1
      have h1' : s.c ≤ maxLen := h1'
      obtain ⟨a, b, c, rfl⟩ : ∃ a b c, v = [a, b, c] := by
        have : v.length = 3 := h2.1
        match v, this with
        | [a, b, c], _ => exact ⟨a, b, c, rfl⟩
      refine ⟨⟨⟨a, b, c, dr, sc, cm, mo, ti, gr, sd, s.l⟩, s.p, s.c⟩, ?_, ⟨⟨h5.1, h1f⟩, h1, Nat.le_trans h1 h1'⟩, ?_⟩
      · show _ = [Value.slice s.p s.l.length s.c] ++ ([Value.int .i64 a, Value.int .i64 b, Value.int .i64 c] ++ ([Value.int .i64 dr] ++ (sc.cells ++ (bytes cm ++ ([Value.int .i64 mo] ++ ([Value.int .i64 ti] ++ ([Value.int .i64 gr] ++ ([Value.int .u64 sd] ++ []))))))))
        simp [Cf.cells, Cf.tl, Sch.cells, CfA.sl]
      · intro y hy
        rw [List.mem_singleton.1 hy]
        simp [Flds.cons, rSrs, Rdr.slice])
    (fun x h => cf_len h.f.cm _)
theorem setupTells_call (W : World) (x : CfA) (n : Int) (hx : rCf.ok x) (_ : rInt.ok n) (tx : ∀ y ∈ rCf.its x, y.A W) (_ : ∀ y ∈ rInt.its n, y.A W) :
    Calls Try.prog 4 #[rCf.val x, rInt.val n] W (fun e w' => e = .returned (.bool true) ∧ RowKit.Below W.heap.size W w') :=
  (stells x.c x.p x.cap _ n hx.f rfl hx.l hx.b).lawI tx
end Go.Proofs.Ytbdnebedmdoehaa
