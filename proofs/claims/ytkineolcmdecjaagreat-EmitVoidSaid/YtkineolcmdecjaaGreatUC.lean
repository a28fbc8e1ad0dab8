import Derived.Test.YtkineolcmdecjaaGreatUB
import Derived.Test.YtkineolcmdecjaaGreatPE
namespace Go.Proofs.YtkineolcmdecjaaGreat
open Go.PK
/-! ### Finding a source -/
def zeroS : Sr := ⟨0, 0, List.replicate 32 0, 0, 0, 0, 0, ⟨0, 0, 0, 0, 0, 0, 0, 0, 0, 0⟩⟩
def idxS (p : Sr → Bool) (L : List Sr) : Int := match L.findIdx? p with
  | some i => (i : Int)
  | none => -1
end Go.Proofs.YtkineolcmdecjaaGreat

namespace Go.Proofs.YtkineolcmdecjaaGreat
open Go.PK
/-! ### Find, Of -/
end Go.Proofs.YtkineolcmdecjaaGreat

namespace Go.Proofs.YtkineolcmdecjaaGreat
open Go.PK
/-! ### A source equals itself -/
end Go.Proofs.YtkineolcmdecjaaGreat

namespace Go.Proofs.YtkineolcmdecjaaGreat
open Go.PK
/-! ### The law's helpers: source, Plain, Few -/
def zeroC : Cf := ⟨0, 0, 0, 0, ⟨0, 0, 0, 0⟩, List.replicate 32 0, 0, 0, 0, 0, []⟩
theorem cf_ones (c : Cf) {sl : Value} (hs : sl.oneCell' = true) : ones (c.cells sl) = true := by
  have h : ones (bytes c.cm ++ c.tl) = true := ones_app (ones_map one8 _) rfl
  show (sl.oneCell' && _) = true
  rw [hs]; exact h
theorem cf_set {c : Cf} {sl sl' : Value} : spl (c.cells sl) (0 + 0) [sl'] = c.cells sl' := by
  have e : ∀ s, c.cells s = [] ++ ([s] ++ (c.cells sl).tail) := fun s => rfl
  rw [e sl, e sl']; exact seg_spl rfl rfl
end Go.Proofs.YtkineolcmdecjaaGreat

namespace Go.Proofs.YtkineolcmdecjaaGreat
open Go.PK
theorem srs_ones (L : List Sr) : ∀ u ∈ L.flatMap Sr.cells, u.oneCell' = true := fun u hu => by
  obtain ⟨s, -, hs⟩ := List.mem_flatMap.1 hu
  exact ones_spec (sr_ones s) u hs
theorem fill_one48 {cs zs : List Value} (h : cs.length = 48) (hz : zs.length = 48) : fillL (fun j => some (j * 48, 48)) (reps zs 1) [(0, .agg cs.toArray)] = some cs := by
  refine fill_seg [] zs [] rfl (agg_cells _) (by simp [reps]) rfl hz h ?_
  simp [fillL]
/-- A configuration, its sources its own. -/
def CfR (U : TypeId) (c : Cf) : Value → List It → List It → Prop := fun v I' H' => ∃ ob cap, v = .agg (c.cells (slO ob c.L.length cap)).toArray ∧ I' = [] ∧ H' = [own ob cap U 48 c.L.length (c.L.flatMap Sr.cells)]
end Go.Proofs.YtkineolcmdecjaaGreat
