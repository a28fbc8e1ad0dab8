import Derived.Test.YtggmnhogmjglmaaP1
import Derived.Test.YtggmnhogmjglmaaPkT
import Derived.Shelf.SlSortCmp.NoneTotal
import Derived.Shelf.Lay
import Derived.Ground.SlsfProg
namespace Go.Proofs.Ytggmnhogmjglmaa
open Go.PK Go.Shelf Go.Sort
theorem qcmp_any (a b c d : Int) : Spc Try.prog 40 #[.agg #[.int .u32 a, .int .u8 b], .agg #[.int .u32 c, .int .u8 d]] [] [] (Is (.int .i64 (cmp2 a c b d))) := by
  refine Spc.enter Try.func40 rfl rfl rfl (fun w0 hw0 => ?_)
  refine CW.seq ?_
  refine CW.region (ef := [0, 1]) (bk := []) ?_
  refine RL.box rfl rfl rfl rfl rfl rfl ?_
  intro b1
  refine RL.box rfl rfl rfl rfl rfl rfl ?_
  intro b2
  refine RL.assign rfl rfl rfl rfl ?_
  refine RL.nil ?_
  refine NQ.seq ?_
  refine CW.seq ?_
  refine CW.freezeP (A := [_, _]) (B := []) (.take (.take .nil)) rfl ?_
  refine CW.regionD (Sq.of [0, 1, 2, 3, 4, 5, 6, 7, 8, 9, 10, 11, 12]) [10] [] [0, 1, 2, 3, 4, 5, 6, 7, 8, 9, 12] mixed (by kernel_rfl) ?_
  refine RL.fieldAddr fa_28_0 rfl rfl rfl rfl ?_
  refine RL.loadTq Try.isAgg26 rfl rfl rfl rfl ?_
  refine RL.fieldAddr fa_28_0 rfl rfl rfl rfl ?_
  refine RL.loadTq Try.isAgg26 rfl rfl rfl rfl ?_
  refine RL.callTq (cmp_uint32 a c) Try.call54 rfl rfl rfl rfl ?_
  refine RL.fieldAddr fa_28_1 rfl rfl rfl rfl ?_
  refine RL.loadTq Try.isAgg5 rfl rfl rfl rfl ?_
  refine RL.fieldAddr fa_28_1 rfl rfl rfl rfl ?_
  refine RL.loadTq Try.isAgg5 rfl rfl rfl rfl ?_
  refine RL.callTq (cmp_uint8 b d) Try.call55 rfl rfl rfl rfl ?_
  refine RL.buildSlice [_, _] Try.runUnderlying129 Try.sizeOf3 Try.zeroValue3 rfl rfl (by decide) (by decide) rfl rfl rfl rfl rfl rfl ?_
  intro b3
  refine RL.callv (or_any (some ⟨b3, 0, none⟩) 2 2 [cmpI a c, cmpI b d] rfl (by decide)) Try.call49 rfl rfl rfl rfl (.all (List.Mem.head _) rfl .nil) ?_
  refine RL.assign rfl rfl rfl rfl ?_
  refine RL.nil ?_
  refine NQ.seq ?_
  refine CW.only (.cons (k := 4) rfl .nil) ?_
  refine CW.ret ?_
  exact RQ.post (res1 rfl rfl) (Split.none _) ⟨by rw [or2], rfl, rfl⟩
def Try.sortQ_ren : Go.Shelf.Ren := ⟨fun | 6 => 39 | 15 => 53 | 14 => 52 | 28 => 72 | 29 => 73 | 20 => 64 | 21 => 65 | 22 => 66 | 23 => 67 | 24 => 68 | 25 => 69 | 26 => 70 | 27 => 71 | 46 => 89 | 47 => 90 | 48 => 91 | 49 => 92 | 50 => 93 | 57 => 98 | n => n, fun | 22 => 61 | 24 => 28 | 25 => 104 | 3 => 3 | 39 => 119 | 0 => 0 | 53 => 26 | 55 => 29 | 4 => 4 | 46 => 132 | 45 => 131 | 50 => 136 | 5 => 5 | 9 => 9 | 66 => 150 | 70 => 154 | 76 => 159 | 77 => 160 | n => n, fun | n => n⟩
theorem Try.sortQ : Go.Proofs.SlLaysF0.n6 Try.prog Try.sortQ_ren := {
  mixed := by kernel_rfl
  f6 := ⟨Try.f39.name, by decide, Try.func39.trans (congrArg some (by kernel_rfl))⟩
  f14 := ⟨Try.f52.name, by decide, Try.func52.trans (congrArg some (by kernel_rfl))⟩
  f15 := Try.func53.trans (congrArg some (by kernel_rfl))
  f20 := ⟨Try.f64.name, by decide, Try.func64.trans (congrArg some (by kernel_rfl))⟩
  f21 := ⟨Try.f65.name, by decide, Try.func65.trans (congrArg some (by kernel_rfl))⟩
  f22 := ⟨Try.f66.name, by decide, Try.func66.trans (congrArg some (by kernel_rfl))⟩
  f23 := ⟨Try.f67.name, by decide, Try.func67.trans (congrArg some (by kernel_rfl))⟩
  f24 := ⟨Try.f68.name, by decide, Try.func68.trans (congrArg some (by kernel_rfl))⟩
  f25 := ⟨Try.f69.name, by decide, Try.func69.trans (congrArg some (by kernel_rfl))⟩
  f26 := ⟨Try.f70.name, by decide, Try.func70.trans (congrArg some (by kernel_rfl))⟩
  f27 := ⟨Try.f71.name, by decide, Try.func71.trans (congrArg some (by kernel_rfl))⟩
  f28 := Try.func72.trans (congrArg some (by kernel_rfl))
  f29 := Try.func73.trans (congrArg some (by kernel_rfl))
  f46 := ⟨Try.f89.name, by decide, Try.func89.trans (congrArg some (by kernel_rfl))⟩
  f47 := Try.func90.trans (congrArg some (by kernel_rfl))
  f48 := Try.func91.trans (congrArg some (by kernel_rfl))
  f49 := ⟨Try.f92.name, by decide, Try.func92.trans (congrArg some (by kernel_rfl))⟩
  f50 := ⟨Try.f93.name, by decide, Try.func93.trans (congrArg some (by kernel_rfl))⟩
  f57 := ⟨Try.f98.name, by decide, Try.func98.trans (congrArg some (by kernel_rfl))⟩
  t0 := Try.underlying0
  a0 := Try.isAgg0
  z0 := Try.sizeOf0
  v0 := Try.zeroValue0
  t3 := Try.underlying3
  a3 := Try.isAgg3
  z3 := Try.sizeOf3
  v3 := Try.zeroValue3
  t4 := Try.underlying4
  a4 := Try.isAgg4
  z4 := Try.sizeOf4
  v4 := Try.zeroValue4
  t5 := Try.underlying5
  a5 := Try.isAgg5
  z5 := Try.sizeOf5
  v5 := Try.zeroValue5
  t9 := Try.underlying9
  a9 := Try.isAgg9
  z9 := Try.sizeOf9
  v9 := Try.zeroValue9
  t22 := Try.underlying61
  a22 := Try.isAgg61
  z22 := Try.sizeOf61
  v22 := Try.zeroValue61
  t25 := Try.underlying104
  a25 := Try.isAgg104
  z25 := Try.sizeOf104
  v25 := Try.zeroValue104
  t39 := Try.underlying119
  a39 := Try.isAgg119
  z39 := Try.sizeOf119
  v39 := Try.zeroValue119
  t45 := Try.underlying131
  a45 := Try.isAgg131
  z45 := Try.sizeOf131
  v45 := Try.zeroValue131
  t46 := Try.underlying132
  a46 := Try.isAgg132
  z46 := Try.sizeOf132
  v46 := Try.zeroValue132
  t50 := Try.underlying136
  a50 := Try.isAgg136
  z50 := Try.sizeOf136
  v50 := Try.zeroValue136
  t53 := Try.underlying26
  a53 := Try.isAgg26
  z53 := Try.sizeOf26
  v53 := Try.zeroValue26
  t55 := Try.underlying29
  a55 := Try.isAgg29
  z55 := Try.sizeOf29
  v55 := Try.zeroValue29
  t66 := Try.underlying150
  a66 := Try.isAgg150
  z66 := Try.sizeOf150
  v66 := Try.zeroValue150
  t70 := Try.underlying154
  a70 := Try.isAgg154
  z70 := Try.sizeOf154
  v70 := Try.zeroValue154
  t76 := Try.underlying159
  a76 := Try.isAgg159
  z76 := Try.sizeOf159
  v76 := Try.zeroValue159
  t77 := Try.underlying160
  a77 := Try.isAgg160
  z77 := Try.sizeOf160
  v77 := Try.zeroValue160 }
def cfQ (p q : Int × Int) : Int := cmp2 p.1 q.1 p.2 q.2
theorem lt_cfQ (x y : Int × Int) : ltOf cfQ x y = decide (x.1 < y.1 ∨ x.1 = y.1 ∧ x.2 < y.2) := by
  rw [Bool.eq_iff_iff]
  simp [ltOf, cfQ, cmp2_neg]
theorem swoQ : SWO (ltOf cfQ) where
  irrefl x := by rw [lt_cfQ]; simp
  trans x y z h1 h2 := by rw [lt_cfQ] at *; simp at *; omega
  ntrans x y z h1 h2 := by rw [lt_cfQ] at *; simp at *; omega
theorem totQ (x y : Int × Int) (h1 : ltOf cfQ x y = false) (h2 : ltOf cfQ y x = false) : x = y := by
  rw [lt_cfQ] at h1 h2
  obtain ⟨a, b⟩ := x; obtain ⟨c, d⟩ := y
  simp at h1 h2
  rw [Prod.mk.injEq]; omega
theorem le_cfQ : (fun x y => !(ltOf cfQ) y x) = lexLe := by
  funext x y
  rw [lt_cfQ, Bool.eq_iff_iff]
  simp [lexLe]; omega
theorem sortQ_o (ob : Option Nat) (cap n : Nat) (d : List (Int × Int)) (hn : d.length = n) (hb : n < 4611686018427387904) : Spc Try.prog 39 #[slO ob n cap, .func (.func 40) #[] #[]] [] [own ob cap 28 2 n (d.flatMap plcq)]
    (fun v I' H' => v = .tuple #[] ∧ I' = [] ∧ H' = [own ob cap 28 2 n ((d.mergeSort lexLe).flatMap plcq)]) := by
  have := sort_funcO (P := Try.prog) (f := 39) (g := 40) plcq (k := 2) (by decide) (fun _ => rfl) cfQ
    (fun blk off cap d w h1 h2 h3 h4 => AnyQ.slices_SortFunc_total Try.sortQ 2 Try.isAgg28 Try.sizeOf28 plcq (fun _ => rfl) (fun x v hv => by simp [plcq] at hv; rcases hv with rfl | rfl <;> rfl) cfQ swoQ 40 #[] blk off cap d w Try.call40 h1 h2 h3 h4 totQ)
    (fun cap w => AnyF.slices_SortFunc_none Try.sortQ none cap _ w)
    (fun x y => qcmp_any x.1 x.2 y.1 y.2) ob cap n 28 d hn hb
  rw [le_cfQ] at this
  exact this
end Go.Proofs.Ytggmnhogmjglmaa
