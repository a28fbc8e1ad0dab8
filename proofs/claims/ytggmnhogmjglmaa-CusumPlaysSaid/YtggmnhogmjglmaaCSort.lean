import Derived.Test.YtggmnhogmjglmaaC2
import Derived.Test.YtggmnhogmjglmaaPkT
import Derived.Shelf.SlSortCmp.NoneTotal
import Derived.Shelf.Lay
import Derived.Ground.SlsfProg
namespace Go.Proofs.Ytggmnhogmjglmaa
open Go.PK Go.Shelf Go.Sort
shelf_lay_g SlLaysF0.n6 Slsf 6 at Try 47 as Try.sortPl
def cfP (p q : Int × Int) : Int := cmp2 p.1 q.1 p.2 q.2
theorem lt_cfP (x y : Int × Int) : ltOf cfP x y = decide (x.1 < y.1 ∨ x.1 = y.1 ∧ x.2 < y.2) := by
  rw [Bool.eq_iff_iff]
  simp [ltOf, cfP, cmp2_neg]
theorem swoP : SWO (ltOf cfP) where
  irrefl x := by rw [lt_cfP]; simp
  trans x y z h1 h2 := by rw [lt_cfP] at *; simp at *; omega
  ntrans x y z h1 h2 := by rw [lt_cfP] at *; simp at *; omega
theorem totP (x y : Int × Int) (h1 : ltOf cfP x y = false) (h2 : ltOf cfP y x = false) : x = y := by
  rw [lt_cfP] at h1 h2
  obtain ⟨a, b⟩ := x; obtain ⟨c, d⟩ := y
  simp at h1 h2
  rw [Prod.mk.injEq]; omega
theorem le_cfP : (fun x y => !(ltOf cfP) y x) = lexLe := by
  funext x y
  rw [lt_cfP, Bool.eq_iff_iff]
  simp [lexLe]; omega
theorem sortP_o (ob : Option Nat) (cap n : Nat) (d : List (Int × Int)) (hn : d.length = n) (hb : n < 4611686018427387904) : Spc Try.prog 47 #[slO ob n cap, .func (.func 48) #[] #[]] [] [own ob cap 79 2 n (d.flatMap plc)]
    (fun v I' H' => v = .tuple #[] ∧ I' = [] ∧ H' = [own ob cap 79 2 n ((d.mergeSort lexLe).flatMap plc)]) := by
  have := sort_funcO (P := Try.prog) (f := 47) (g := 48) plc (k := 2) (by decide) (fun _ => rfl) cfP
    (fun blk off cap d w h1 h2 h3 h4 => AnyQ.slices_SortFunc_total Try.sortPl 2 Try.isAgg79 Try.sizeOf79 plc (fun _ => rfl) (fun x v hv => by simp [plc] at hv; rcases hv with rfl | rfl <;> rfl) cfP swoP 48 #[] blk off cap d w Try.call48 h1 h2 h3 h4 totP)
    (fun cap w => AnyF.slices_SortFunc_none Try.sortPl none cap _ w)
    (fun x y => dcmp_any x.1 x.2 y.1 y.2) ob cap n 79 d hn hb
  rw [le_cfP] at this
  exact this
end Go.Proofs.Ytggmnhogmjglmaa
