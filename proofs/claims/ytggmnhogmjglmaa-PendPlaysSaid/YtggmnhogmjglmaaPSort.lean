import Derived.Test.YtggmnhogmjglmaaP1
import Derived.Test.YtggmnhogmjglmaaPkT
import Derived.Shelf.SlSortCmp.NoneTotal
import Derived.Shelf.Lay
import Derived.Ground.SlsfProg
namespace Go.Proofs.Ytggmnhogmjglmaa
open Go.PK Go.Shelf Go.Sort
theorem qcmp_any (a b c d : Int) : Spc Try.prog 40 #[.agg #[.int .u32 a, .int .u8 b], .agg #[.int .u32 c, .int .u8 d]] [] [] (Is (.int .i64 (cmp2 a c b d))) := by
  refine Spc.enter Try.func40 rfl rfl rfl (fun w0 hw0 => ?_)
  refine CW.seq ?_
  refine CW.region (ef := [0, 1]) (bk := []) ?_
  refine RL.box rfl rfl rfl rfl rfl rfl ?_
  intro b1
  refine RL.box rfl rfl rfl rfl rfl rfl ?_
  intro b2
  refine RL.assign rfl rfl rfl rfl ?_
  refine RL.nil ?_
  refine NQ.seq ?_
  refine CW.seq ?_
  refine CW.freezeP (A := [_, _]) (B := []) (.take (.take .nil)) rfl ?_
  refine CW.regionD (Sq.of [0, 1, 2, 3, 4, 5, 6, 7, 8, 9, 10, 11, 12]) [10] [] [0, 1, 2, 3, 4, 5, 6, 7, 8, 9, 12] mixed (by kernel_rfl) ?_
  refine RL.fieldAddr fa_28_0 rfl rfl rfl rfl ?_
  refine RL.loadTq Try.isAgg26 rfl rfl rfl rfl ?_
  refine RL.fieldAddr fa_28_0 rfl rfl rfl rfl ?_
  refine RL.loadTq Try.isAgg26 rfl rfl rfl rfl ?_
  refine RL.callTq (cmp_uint32 a c) Try.call54 rfl rfl rfl rfl ?_
  refine RL.fieldAddr fa_28_1 rfl rfl rfl rfl ?_
  refine RL.loadTq Try.isAgg5 rfl rfl rfl rfl ?_
  refine RL.fieldAddr fa_28_1 rfl rfl rfl rfl ?_
  refine RL.loadTq Try.isAgg5 rfl rfl rfl rfl ?_
  refine RL.callTq (cmp_uint8 b d) Try.call55 rfl rfl rfl rfl ?_
  refine RL.buildSlice [_, _] Try.runUnderlying129 Try.sizeOf3 Try.zeroValue3 rfl rfl (by decide) (by decide) rfl rfl rfl rfl rfl rfl ?_
  intro b3
  refine RL.callv (or_any (some ⟨b3, 0, none⟩) 2 2 [cmpI a c, cmpI b d] rfl (by decide)) Try.call49 rfl rfl rfl rfl (.all (List.Mem.head _) rfl .nil) ?_
  refine RL.assign rfl rfl rfl rfl ?_
  refine RL.nil ?_
  refine NQ.seq ?_
  refine CW.only (.cons (k := 4) rfl .nil) ?_
  refine CW.ret ?_
  exact RQ.post (res1 rfl rfl) (Split.none _) ⟨by rw [or2], rfl, rfl⟩
shelf_lay_g SlLaysF0.n6 Slsf 6 at Try 39 as Try.sortQ
def cfQ (p q : Int × Int) : Int := cmp2 p.1 q.1 p.2 q.2
theorem lt_cfQ (x y : Int × Int) : ltOf cfQ x y = decide (x.1 < y.1 ∨ x.1 = y.1 ∧ x.2 < y.2) := by
  rw [Bool.eq_iff_iff]
  simp [ltOf, cfQ, cmp2_neg]
theorem swoQ : SWO (ltOf cfQ) where
  irrefl x := by rw [lt_cfQ]; simp
  trans x y z h1 h2 := by rw [lt_cfQ] at *; simp at *; omega
  ntrans x y z h1 h2 := by rw [lt_cfQ] at *; simp at *; omega
theorem totQ (x y : Int × Int) (h1 : ltOf cfQ x y = false) (h2 : ltOf cfQ y x = false) : x = y := by
  rw [lt_cfQ] at h1 h2
  obtain ⟨a, b⟩ := x; obtain ⟨c, d⟩ := y
  simp at h1 h2
  rw [Prod.mk.injEq]; omega
theorem le_cfQ : (fun x y => !(ltOf cfQ) y x) = lexLe := by
  funext x y
  rw [lt_cfQ, Bool.eq_iff_iff]
  simp [lexLe]; omega
theorem sortQ_o (ob : Option Nat) (cap n : Nat) (d : List (Int × Int)) (hn : d.length = n) (hb : n < 4611686018427387904) : Spc Try.prog 39 #[slO ob n cap, .func (.func 40) #[] #[]] [] [own ob cap 28 2 n (d.flatMap plcq)]
    (fun v I' H' => v = .tuple #[] ∧ I' = [] ∧ H' = [own ob cap 28 2 n ((d.mergeSort lexLe).flatMap plcq)]) := by
  have := sort_funcO (P := Try.prog) (f := 39) (g := 40) plcq (k := 2) (by decide) (fun _ => rfl) cfQ
    (fun blk off cap d w h1 h2 h3 h4 => AnyQ.slices_SortFunc_total Try.sortQ 2 Try.isAgg28 Try.sizeOf28 plcq (fun _ => rfl) (fun x v hv => by simp [plcq] at hv; rcases hv with rfl | rfl <;> rfl) cfQ swoQ 40 #[] blk off cap d w Try.call40 h1 h2 h3 h4 totQ)
    (fun cap w => AnyF.slices_SortFunc_none Try.sortQ none cap _ w)
    (fun x y => qcmp_any x.1 x.2 y.1 y.2) ob cap n 28 d hn hb
  rw [le_cfQ] at this
  exact this
end Go.Proofs.Ytggmnhogmjglmaa
