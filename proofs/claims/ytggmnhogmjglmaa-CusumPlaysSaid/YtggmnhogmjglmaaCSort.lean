import Derived.Test.YtggmnhogmjglmaaC2
import Derived.Test.YtggmnhogmjglmaaPkT
import Derived.Shelf.SlSortCmp.NoneTotal
import Derived.Shelf.Lay
import Derived.Ground.SlsfProg
namespace Go.Proofs.Ytggmnhogmjglmaa
open Go.PK Go.Shelf Go.Sort
def Try.sortPl_ren : Go.Shelf.Ren := ⟨fun | 6 => 47 | 15 => 53 | 14 => 62 | 28 => 72 | 29 => 73 | 20 => 81 | 21 => 82 | 22 => 83 | 23 => 84 | 24 => 85 | 25 => 86 | 26 => 87 | 27 => 88 | 46 => 95 | 47 => 90 | 48 => 91 | 49 => 96 | 50 => 97 | 57 => 99 | n => n, fun | 22 => 93 | 24 => 79 | 25 => 116 | 3 => 3 | 39 => 119 | 0 => 0 | 53 => 26 | 55 => 29 | 4 => 4 | 46 => 132 | 45 => 131 | 50 => 136 | 5 => 5 | 9 => 9 | 66 => 150 | 70 => 154 | 76 => 159 | 77 => 160 | n => n, fun | n => n⟩
theorem Try.sortPl : Go.Proofs.SlLaysF0.n6 Try.prog Try.sortPl_ren := {
  mixed := by kernel_rfl
  f6 := ⟨Try.f47.name, by decide, Try.func47.trans (congrArg some (by kernel_rfl))⟩
  f14 := ⟨Try.f62.name, by decide, Try.func62.trans (congrArg some (by kernel_rfl))⟩
  f15 := Try.func53.trans (congrArg some (by kernel_rfl))
  f20 := ⟨Try.f81.name, by decide, Try.func81.trans (congrArg some (by kernel_rfl))⟩
  f21 := ⟨Try.f82.name, by decide, Try.func82.trans (congrArg some (by kernel_rfl))⟩
  f22 := ⟨Try.f83.name, by decide, Try.func83.trans (congrArg some (by kernel_rfl))⟩
  f23 := ⟨Try.f84.name, by decide, Try.func84.trans (congrArg some (by kernel_rfl))⟩
  f24 := ⟨Try.f85.name, by decide, Try.func85.trans (congrArg some (by kernel_rfl))⟩
  f25 := ⟨Try.f86.name, by decide, Try.func86.trans (congrArg some (by kernel_rfl))⟩
  f26 := ⟨Try.f87.name, by decide, Try.func87.trans (congrArg some (by kernel_rfl))⟩
  f27 := ⟨Try.f88.name, by decide, Try.func88.trans (congrArg some (by kernel_rfl))⟩
  f28 := Try.func72.trans (congrArg some (by kernel_rfl))
  f29 := Try.func73.trans (congrArg some (by kernel_rfl))
  f46 := ⟨Try.f95.name, by decide, Try.func95.trans (congrArg some (by kernel_rfl))⟩
  f47 := Try.func90.trans (congrArg some (by kernel_rfl))
  f48 := Try.func91.trans (congrArg some (by kernel_rfl))
  f49 := ⟨Try.f96.name, by decide, Try.func96.trans (congrArg some (by kernel_rfl))⟩
  f50 := ⟨Try.f97.name, by decide, Try.func97.trans (congrArg some (by kernel_rfl))⟩
  f57 := ⟨Try.f99.name, by decide, Try.func99.trans (congrArg some (by kernel_rfl))⟩
  t0 := Try.underlying0
  a0 := Try.isAgg0
  z0 := Try.sizeOf0
  v0 := Try.zeroValue0
  t3 := Try.underlying3
  a3 := Try.isAgg3
  z3 := Try.sizeOf3
  v3 := Try.zeroValue3
  t4 := Try.underlying4
  a4 := Try.isAgg4
  z4 := Try.sizeOf4
  v4 := Try.zeroValue4
  t5 := Try.underlying5
  a5 := Try.isAgg5
  z5 := Try.sizeOf5
  v5 := Try.zeroValue5
  t9 := Try.underlying9
  a9 := Try.isAgg9
  z9 := Try.sizeOf9
  v9 := Try.zeroValue9
  t22 := Try.underlying93
  a22 := Try.isAgg93
  z22 := Try.sizeOf93
  v22 := Try.zeroValue93
  t25 := Try.underlying116
  a25 := Try.isAgg116
  z25 := Try.sizeOf116
  v25 := Try.zeroValue116
  t39 := Try.underlying119
  a39 := Try.isAgg119
  z39 := Try.sizeOf119
  v39 := Try.zeroValue119
  t45 := Try.underlying131
  a45 := Try.isAgg131
  z45 := Try.sizeOf131
  v45 := Try.zeroValue131
  t46 := Try.underlying132
  a46 := Try.isAgg132
  z46 := Try.sizeOf132
  v46 := Try.zeroValue132
  t50 := Try.underlying136
  a50 := Try.isAgg136
  z50 := Try.sizeOf136
  v50 := Try.zeroValue136
  t53 := Try.underlying26
  a53 := Try.isAgg26
  z53 := Try.sizeOf26
  v53 := Try.zeroValue26
  t55 := Try.underlying29
  a55 := Try.isAgg29
  z55 := Try.sizeOf29
  v55 := Try.zeroValue29
  t66 := Try.underlying150
  a66 := Try.isAgg150
  z66 := Try.sizeOf150
  v66 := Try.zeroValue150
  t70 := Try.underlying154
  a70 := Try.isAgg154
  z70 := Try.sizeOf154
  v70 := Try.zeroValue154
  t76 := Try.underlying159
  a76 := Try.isAgg159
  z76 := Try.sizeOf159
  v76 := Try.zeroValue159
  t77 := Try.underlying160
  a77 := Try.isAgg160
  z77 := Try.sizeOf160
  v77 := Try.zeroValue160 }
def cfP (p q : Int × Int) : Int := cmp2 p.1 q.1 p.2 q.2
theorem lt_cfP (x y : Int × Int) : ltOf cfP x y = decide (x.1 < y.1 ∨ x.1 = y.1 ∧ x.2 < y.2) := by
  rw [Bool.eq_iff_iff]
  simp [ltOf, cfP, cmp2_neg]
theorem swoP : SWO (ltOf cfP) where
  irrefl x := by rw [lt_cfP]; simp
  trans x y z h1 h2 := by rw [lt_cfP] at *; simp at *; omega
  ntrans x y z h1 h2 := by rw [lt_cfP] at *; simp at *; omega
theorem totP (x y : Int × Int) (h1 : ltOf cfP x y = false) (h2 : ltOf cfP y x = false) : x = y := by
  rw [lt_cfP] at h1 h2
  obtain ⟨a, b⟩ := x; obtain ⟨c, d⟩ := y
  simp at h1 h2
  rw [Prod.mk.injEq]; omega
theorem le_cfP : (fun x y => !(ltOf cfP) y x) = lexLe := by
  funext x y
  rw [lt_cfP, Bool.eq_iff_iff]
  simp [lexLe]; omega
theorem sortP_o (ob : Option Nat) (cap n : Nat) (d : List (Int × Int)) (hn : d.length = n) (hb : n < 4611686018427387904) : Spc Try.prog 47 #[slO ob n cap, .func (.func 48) #[] #[]] [] [own ob cap 79 2 n (d.flatMap plc)]
    (fun v I' H' => v = .tuple #[] ∧ I' = [] ∧ H' = [own ob cap 79 2 n ((d.mergeSort lexLe).flatMap plc)]) := by
  have := sort_funcO (P := Try.prog) (f := 47) (g := 48) plc (k := 2) (by decide) (fun _ => rfl) cfP
    (fun blk off cap d w h1 h2 h3 h4 => AnyQ.slices_SortFunc_total Try.sortPl 2 Try.isAgg79 Try.sizeOf79 plc (fun _ => rfl) (fun x v hv => by simp [plc] at hv; rcases hv with rfl | rfl <;> rfl) cfP swoP 48 #[] blk off cap d w Try.call48 h1 h2 h3 h4 totP)
    (fun cap w => AnyF.slices_SortFunc_none Try.sortPl none cap _ w)
    (fun x y => dcmp_any x.1 x.2 y.1 y.2) ob cap n 79 d hn hb
  rw [le_cfP] at this
  exact this
end Go.Proofs.Ytggmnhogmjglmaa
