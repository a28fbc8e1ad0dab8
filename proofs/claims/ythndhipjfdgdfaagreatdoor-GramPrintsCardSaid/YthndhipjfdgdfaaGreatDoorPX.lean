import Derived.Test.YthndhipjfdgdfaaGreatDoorWB
import Derived.Test.YthndhipjfdgdfaaGreatDoorUD
import Derived.Test.YthndhipjfdgdfaaGreatDoorUC
import Derived.Test.YthndhipjfdgdfaaGreatDoorBA
import Derived.Test.YthndhipjfdgdfaaGreatDoorXA
import Derived.KernelRfl
import Derived.Test.YthndhipjfdgdfaaGreatDoorProg
set_option linter.unusedVariables false
set_option linter.unusedSimpArgs false
namespace Go.Proofs.YthndhipjfdgdfaaGreatDoor
open Go.PK
/-! ### The plain plan -/
def znT (T : TypeId) (z : ZO) : It := own z.2.1 z.2.2 T 2 z.1.L.length (z.1.L.flatMap Pt.cells)
def plT (A Z T : TypeId) (P : Pl) (oa : Option Nat) (ca : Nat) (oz : Option Nat) (cz : Nat) (ZL : List ZO) : List It := [own oa ca A 48 P.cf.L.length (P.cf.L.flatMap Sr.cells), own oz cz Z 4 P.zs.length (ZL.flatMap znO), allI (ZL.map (znT T))]
def PlR (A Z T : TypeId) (P : Pl) : Value → List It → List It → Prop := fun v I' H' => ∃ oa ca oz cz ZL, ZL.map (·.1) = P.zs ∧ v = plV P oa ca oz cz ∧ I' = [] ∧ H' = plT A Z T P oa ca oz cz ZL
def plZn : Zn := ⟨true, [(-4294967296000, -4294967296000), (4294967296000, -4294967296000), (4294967296000, 4294967296000), (-4294967296000, 4294967296000)], -4294967296000, 4294967296000⟩
def plainP (seed : B8) : Pl := ⟨plainC seed [], [plZn], 20, 1000, 3, 64⟩
theorem Lend.none0 {I F J : List It} (h : Lend I F J) : Lend I F (PK.sls none 1 0 [] :: J) := Lend.of (fun w hw => ⟨rfl, rfl⟩) (fun b hb => by cases hb) h
theorem gplain_any (seed : B8) : Spc Tryz.prog 13 #[U8 seed] [] [] (PlR 98 73 80 (plainP seed)) := by
  have hcl := fun sl zl => pl_len (P := plainP seed) rfl sl zl
  refine Spc.enter Tryz.func13 rfl rfl rfl (fun w0 hw0 => ?_)
  refine CW.seq (CW.region (ef := [0]) (bk := []) (RL.alloc Tryz.zeroValue35 rfl rfl rfl rfl rfl ?_))
  intro b1
  refine RL.nil (NQ.seq (CW.seq (CW.region (ef := [4, 6, 7]) (bk := [7]) (RL.buildA [_, _] Tryz.zeroValue80 Tryz.runUnderlying80 Tryz.sizeOf23 rfl rfl rfl rfl rfl (RL.buildA [_, _] Tryz.zeroValue80 Tryz.runUnderlying80 Tryz.sizeOf23 rfl rfl rfl rfl rfl (RL.buildA [_, _] Tryz.zeroValue80 Tryz.runUnderlying80 Tryz.sizeOf23 rfl rfl rfl rfl rfl (RL.buildA [_, _] Tryz.zeroValue80 Tryz.runUnderlying80 Tryz.sizeOf23 rfl rfl rfl rfl rfl (RL.buildOwn [_, _, _, _, _, _, _, _] Tryz.runUnderlying71 Tryz.sizeOf80 Tryz.zeroValue80 rfl rfl (by decide) (by decide) rfl (by decide) rfl rfl rfl rfl rfl rfl ?_))))))))
  intro b2
  refine RL.buildS [_, _, _, _] Tryz.zeroValue73 pl_73 rfl rfl rfl rfl rfl (RL.alloc Tryz.zeroValue73 rfl rfl rfl rfl rfl ?_)
  intro b3
  refine RL.store (vs := [_, _, _, _]) Tryz.sizeOf73 rfl rfl rfl rfl rfl rfl rfl rfl rfl (by repeat (first | exact Upd.here | apply Upd.there)) ?_
  refine RL.nil (NQ.seq (CW.ok [0, 2, 3] rfl (CW.seq (CW.regionD (.cons 0 (.fork [1, 2] (fun k => (bif Nat.beq k 1 then (Sq.of [2, 3, 4, 5]) else (.fork [1, 3] (fun k => (bif Nat.beq k 1 then (Sq.of [3, 4, 5]) else (Sq.of [1, 4, 5])))))))) [1, 3, 5] [1, 5] [0, 4] mixed (by kernel_rfl) ?_))))
  refine RL.p rfl ?_
  refine RL.fork ⟨?_, ?_, trivial⟩
  ·
    refine RL.call (splain_any seed none 0 0 [] rfl (by decide)) Tryz.call42 rfl rfl rfl rfl rfl (by repeat (first | exact Pick.nil | apply Pick.take | apply Pick.leave)) (Lend.none0 .nil) (.inr rfl) ?_
    rintro _ _ _ ⟨ob, cap, rfl, rfl, rfl⟩
    refine RL.loadSq Tryz.isAgg73 Tryz.sizeOf73 rfl rfl rfl rfl ?_
    refine RL.buildOwn [_, _, _, _] Tryz.runUnderlying33 Tryz.sizeOf73 Tryz.zeroValue73 rfl rfl (by decide) (by decide) rfl (by decide) rfl rfl rfl rfl rfl rfl ?_
    intro b4
    refine RL.buildS (plC (plainP seed) (slO ob (plainC seed []).L.length cap) (.slice (some ⟨b4, 0, none⟩) 1 1)) Tryz.zeroValue35 pl_35 rfl rfl rfl rfl rfl (RL.storeW Tryz.sizeOf35 rfl rfl rfl rfl rfl rfl rfl (pl_ones _ rfl rfl) (by repeat (first | exact Upd.here | apply Upd.there)) (hcl _ _) rfl ?_)
    refine RL.nil (NQ.seq (CW.ok [2] rfl (CW.ret ?_)))
    exact RQ.rea (fun _ h => h) (H' := [own (some b2) 4 80 2 4 (plZn.L.flatMap Pt.cells), cel b1 (plC (plainP seed) (slO ob (plainC seed []).L.length cap) (slO (some b4) 1 1)) 35, own ob cap 98 48 (plainC seed []).L.length ((plainC seed []).L.flatMap Sr.cells), own (some b4) 1 73 4 1 (znO (plZn, some b2, 4))]) (by repeat (first | exact Rea.nil | (apply Rea.cons; (solve | (repeat (first | exact Del.here | apply Del.there)))))) (RQ.pack (l := [_]) (RQ.rea (fun _ h => h) (H' := [cel b1 (plC (plainP seed) (slO ob (plainC seed []).L.length cap) (slO (some b4) 1 1)) 35, own ob cap 98 48 (plainC seed []).L.length ((plainC seed []).L.flatMap Sr.cells), own (some b4) 1 73 4 1 (znO (plZn, some b2, 4)), allI [own (some b2) 4 80 2 4 (plZn.L.flatMap Pt.cells)]]) (by repeat (first | exact Rea.nil | (apply Rea.cons; (solve | (repeat (first | exact Del.here | apply Del.there)))))) (RQ.post (resW rfl rfl Tryz.isAgg35 Tryz.sizeOf35 (by repeat (first | exact List.Mem.head _ | apply List.Mem.tail)) (hcl _ _)) (.drop (.keep (.keep (.keep .nil)))) ⟨ob, cap, some b4, 1, [(plZn, some b2, 4)], rfl, rfl, rfl, rfl⟩)))
  ·
    refine RL.loadSq Tryz.isAgg73 Tryz.sizeOf73 rfl rfl rfl rfl ?_
    refine RL.fork ⟨?_, ?_, trivial⟩
    ·
      refine RL.call (splain_any seed none 0 0 [] rfl (by decide)) Tryz.call42 rfl rfl rfl rfl rfl (by repeat (first | exact Pick.nil | apply Pick.take | apply Pick.leave)) (Lend.none0 .nil) (.inr rfl) ?_
      rintro _ _ _ ⟨ob, cap, rfl, rfl, rfl⟩
      refine RL.buildOwn [_, _, _, _] Tryz.runUnderlying33 Tryz.sizeOf73 Tryz.zeroValue73 rfl rfl (by decide) (by decide) rfl (by decide) rfl rfl rfl rfl rfl rfl ?_
      intro b4
      refine RL.buildS (plC (plainP seed) (slO ob (plainC seed []).L.length cap) (.slice (some ⟨b4, 0, none⟩) 1 1)) Tryz.zeroValue35 pl_35 rfl rfl rfl rfl rfl (RL.storeW Tryz.sizeOf35 rfl rfl rfl rfl rfl rfl rfl (pl_ones _ rfl rfl) (by repeat (first | exact Upd.here | apply Upd.there)) (hcl _ _) rfl ?_)
      refine RL.nil (NQ.seq (CW.ok [2] rfl (CW.ret ?_)))
      exact RQ.rea (fun _ h => h) (H' := [own (some b2) 4 80 2 4 (plZn.L.flatMap Pt.cells), cel b1 (plC (plainP seed) (slO ob (plainC seed []).L.length cap) (slO (some b4) 1 1)) 35, own ob cap 98 48 (plainC seed []).L.length ((plainC seed []).L.flatMap Sr.cells), own (some b4) 1 73 4 1 (znO (plZn, some b2, 4))]) (by repeat (first | exact Rea.nil | (apply Rea.cons; (solve | (repeat (first | exact Del.here | apply Del.there)))))) (RQ.pack (l := [_]) (RQ.rea (fun _ h => h) (H' := [cel b1 (plC (plainP seed) (slO ob (plainC seed []).L.length cap) (slO (some b4) 1 1)) 35, own ob cap 98 48 (plainC seed []).L.length ((plainC seed []).L.flatMap Sr.cells), own (some b4) 1 73 4 1 (znO (plZn, some b2, 4)), allI [own (some b2) 4 80 2 4 (plZn.L.flatMap Pt.cells)]]) (by repeat (first | exact Rea.nil | (apply Rea.cons; (solve | (repeat (first | exact Del.here | apply Del.there)))))) (RQ.post (resW rfl rfl Tryz.isAgg35 Tryz.sizeOf35 (by repeat (first | exact List.Mem.head _ | apply List.Mem.tail)) (hcl _ _)) (.drop (.keep (.keep (.keep .nil)))) ⟨ob, cap, some b4, 1, [(plZn, some b2, 4)], rfl, rfl, rfl, rfl⟩)))
    ·
      refine RL.buildOwn [_, _, _, _] Tryz.runUnderlying33 Tryz.sizeOf73 Tryz.zeroValue73 rfl rfl (by decide) (by decide) rfl (by decide) rfl rfl rfl rfl rfl rfl ?_
      intro b4
      refine RL.call (splain_any seed none 0 0 [] rfl (by decide)) Tryz.call42 rfl rfl rfl rfl rfl (by repeat (first | exact Pick.nil | apply Pick.take | apply Pick.leave)) (Lend.none0 .nil) (.inr rfl) ?_
      rintro _ _ _ ⟨ob, cap, rfl, rfl, rfl⟩
      refine RL.buildS (plC (plainP seed) (slO ob (plainC seed []).L.length cap) (.slice (some ⟨b4, 0, none⟩) 1 1)) Tryz.zeroValue35 pl_35 rfl rfl rfl rfl rfl (RL.storeW Tryz.sizeOf35 rfl rfl rfl rfl rfl rfl rfl (pl_ones _ rfl rfl) (by repeat (first | exact Upd.here | apply Upd.there)) (hcl _ _) rfl ?_)
      refine RL.nil (NQ.seq (CW.ok [2] rfl (CW.ret ?_)))
      exact RQ.rea (fun _ h => h) (H' := [own (some b2) 4 80 2 4 (plZn.L.flatMap Pt.cells), cel b1 (plC (plainP seed) (slO ob (plainC seed []).L.length cap) (slO (some b4) 1 1)) 35, own ob cap 98 48 (plainC seed []).L.length ((plainC seed []).L.flatMap Sr.cells), own (some b4) 1 73 4 1 (znO (plZn, some b2, 4))]) (by repeat (first | exact Rea.nil | (apply Rea.cons; (solve | (repeat (first | exact Del.here | apply Del.there)))))) (RQ.pack (l := [_]) (RQ.rea (fun _ h => h) (H' := [cel b1 (plC (plainP seed) (slO ob (plainC seed []).L.length cap) (slO (some b4) 1 1)) 35, own ob cap 98 48 (plainC seed []).L.length ((plainC seed []).L.flatMap Sr.cells), own (some b4) 1 73 4 1 (znO (plZn, some b2, 4)), allI [own (some b2) 4 80 2 4 (plZn.L.flatMap Pt.cells)]]) (by repeat (first | exact Rea.nil | (apply Rea.cons; (solve | (repeat (first | exact Del.here | apply Del.there)))))) (RQ.post (resW rfl rfl Tryz.isAgg35 Tryz.sizeOf35 (by repeat (first | exact List.Mem.head _ | apply List.Mem.tail)) (hcl _ _)) (.drop (.keep (.keep (.keep .nil)))) ⟨ob, cap, some b4, 1, [(plZn, some b2, 4)], rfl, rfl, rfl, rfl⟩)))
theorem rgplain_any (seed : B8) : Spc Tryz.prog 14 #[U8 seed] [] [] (PlR 108 77 79 (plainP seed)) := by
  have hcl := fun sl zl => pl_len (P := plainP seed) rfl sl zl
  refine Spc.enter Tryz.func14 rfl rfl rfl (fun w0 hw0 => ?_)
  refine CW.seq (CW.region (ef := [0]) (bk := []) (RL.alloc Tryz.zeroValue43 rfl rfl rfl rfl rfl ?_))
  intro b1
  refine RL.nil (NQ.seq (CW.seq (CW.rg (RL.p rfl (RL.nil (NQ.seq (CW.seq (CW.region (ef := [16, 21, 22]) (bk := [22]) (RL.p rfl (RL.neg rfl rfl rfl rfl (RL.p rfl (RL.neg rfl rfl rfl rfl (RL.buildA [_, _] Tryz.zeroValue79 Tryz.runUnderlying79 Tryz.sizeOf23 rfl rfl rfl rfl rfl ?_)))))))))))))
  refine RL.p rfl (RL.p rfl (RL.neg rfl rfl rfl rfl (RL.buildA [_, _] Tryz.zeroValue79 Tryz.runUnderlying79 Tryz.sizeOf23 rfl rfl rfl rfl rfl (RL.p rfl (RL.p rfl (RL.buildA [_, _] Tryz.zeroValue79 Tryz.runUnderlying79 Tryz.sizeOf23 rfl rfl rfl rfl rfl (RL.p rfl (RL.neg rfl rfl rfl rfl (RL.p rfl (RL.buildA [_, _] Tryz.zeroValue79 Tryz.runUnderlying79 Tryz.sizeOf23 rfl rfl rfl rfl rfl (RL.buildOwn [_, _, _, _, _, _, _, _] Tryz.runUnderlying75 Tryz.sizeOf79 Tryz.zeroValue79 rfl rfl (by decide) (by decide) rfl (by decide) rfl rfl rfl rfl rfl rfl ?_)))))))))))
  intro b2
  refine RL.p rfl (RL.neg rfl rfl rfl rfl (RL.p rfl (RL.buildS [_, _, _, _] Tryz.zeroValue77 pl_77 rfl rfl rfl rfl rfl (RL.alloc Tryz.zeroValue77 rfl rfl rfl rfl rfl ?_))))
  intro b3
  refine RL.store (vs := [_, _, _, _]) Tryz.sizeOf77 rfl rfl rfl rfl rfl rfl rfl rfl rfl (by repeat (first | exact Upd.here | apply Upd.there)) ?_
  refine RL.nil (NQ.seq (CW.ok [0, 2, 4] rfl (CW.seq (CW.regionD (.cons 0 (.fork [1, 2] (fun k => (bif Nat.beq k 1 then (Sq.of [2, 3, 4, 5]) else (.fork [1, 3] (fun k => (bif Nat.beq k 1 then (Sq.of [3, 4, 5]) else (Sq.of [1, 4, 5])))))))) [1, 3, 5] [1, 5] [0, 4] mixed (by kernel_rfl) ?_))))
  refine RL.p rfl ?_
  refine RL.fork ⟨?_, ?_, trivial⟩
  ·
    refine RL.call (rplain_any seed none 0 0 [] rfl (by decide)) Tryz.call43 rfl rfl rfl rfl rfl (by repeat (first | exact Pick.nil | apply Pick.take | apply Pick.leave)) (Lend.none0 .nil) (.inr rfl) ?_
    rintro _ _ _ ⟨ob, cap, rfl, rfl, rfl⟩
    refine RL.loadSq Tryz.isAgg77 Tryz.sizeOf77 rfl rfl rfl rfl ?_
    refine RL.buildOwn [_, _, _, _] Tryz.runUnderlying41 Tryz.sizeOf77 Tryz.zeroValue77 rfl rfl (by decide) (by decide) rfl (by decide) rfl rfl rfl rfl rfl rfl ?_
    intro b4
    refine RL.buildS (plC (plainP seed) (slO ob (plainC seed []).L.length cap) (.slice (some ⟨b4, 0, none⟩) 1 1)) Tryz.zeroValue43 pl_43 rfl rfl rfl rfl rfl (RL.storeW Tryz.sizeOf43 rfl rfl rfl rfl rfl rfl rfl (pl_ones _ rfl rfl) (by repeat (first | exact Upd.here | apply Upd.there)) (hcl _ _) rfl ?_)
    refine RL.nil (NQ.seq (CW.ok [2] rfl (CW.ret ?_)))
    exact RQ.rea (fun _ h => h) (H' := [own (some b2) 4 79 2 4 (plZn.L.flatMap Pt.cells), cel b1 (plC (plainP seed) (slO ob (plainC seed []).L.length cap) (slO (some b4) 1 1)) 43, own ob cap 108 48 (plainC seed []).L.length ((plainC seed []).L.flatMap Sr.cells), own (some b4) 1 77 4 1 (znO (plZn, some b2, 4))]) (by repeat (first | exact Rea.nil | (apply Rea.cons; (solve | (repeat (first | exact Del.here | apply Del.there)))))) (RQ.pack (l := [_]) (RQ.rea (fun _ h => h) (H' := [cel b1 (plC (plainP seed) (slO ob (plainC seed []).L.length cap) (slO (some b4) 1 1)) 43, own ob cap 108 48 (plainC seed []).L.length ((plainC seed []).L.flatMap Sr.cells), own (some b4) 1 77 4 1 (znO (plZn, some b2, 4)), allI [own (some b2) 4 79 2 4 (plZn.L.flatMap Pt.cells)]]) (by repeat (first | exact Rea.nil | (apply Rea.cons; (solve | (repeat (first | exact Del.here | apply Del.there)))))) (RQ.post (resW rfl rfl Tryz.isAgg43 Tryz.sizeOf43 (by repeat (first | exact List.Mem.head _ | apply List.Mem.tail)) (hcl _ _)) (.drop (.keep (.keep (.keep .nil)))) ⟨ob, cap, some b4, 1, [(plZn, some b2, 4)], rfl, rfl, rfl, rfl⟩)))
  ·
    refine RL.loadSq Tryz.isAgg77 Tryz.sizeOf77 rfl rfl rfl rfl ?_
    refine RL.fork ⟨?_, ?_, trivial⟩
    ·
      refine RL.call (rplain_any seed none 0 0 [] rfl (by decide)) Tryz.call43 rfl rfl rfl rfl rfl (by repeat (first | exact Pick.nil | apply Pick.take | apply Pick.leave)) (Lend.none0 .nil) (.inr rfl) ?_
      rintro _ _ _ ⟨ob, cap, rfl, rfl, rfl⟩
      refine RL.buildOwn [_, _, _, _] Tryz.runUnderlying41 Tryz.sizeOf77 Tryz.zeroValue77 rfl rfl (by decide) (by decide) rfl (by decide) rfl rfl rfl rfl rfl rfl ?_
      intro b4
      refine RL.buildS (plC (plainP seed) (slO ob (plainC seed []).L.length cap) (.slice (some ⟨b4, 0, none⟩) 1 1)) Tryz.zeroValue43 pl_43 rfl rfl rfl rfl rfl (RL.storeW Tryz.sizeOf43 rfl rfl rfl rfl rfl rfl rfl (pl_ones _ rfl rfl) (by repeat (first | exact Upd.here | apply Upd.there)) (hcl _ _) rfl ?_)
      refine RL.nil (NQ.seq (CW.ok [2] rfl (CW.ret ?_)))
      exact RQ.rea (fun _ h => h) (H' := [own (some b2) 4 79 2 4 (plZn.L.flatMap Pt.cells), cel b1 (plC (plainP seed) (slO ob (plainC seed []).L.length cap) (slO (some b4) 1 1)) 43, own ob cap 108 48 (plainC seed []).L.length ((plainC seed []).L.flatMap Sr.cells), own (some b4) 1 77 4 1 (znO (plZn, some b2, 4))]) (by repeat (first | exact Rea.nil | (apply Rea.cons; (solve | (repeat (first | exact Del.here | apply Del.there)))))) (RQ.pack (l := [_]) (RQ.rea (fun _ h => h) (H' := [cel b1 (plC (plainP seed) (slO ob (plainC seed []).L.length cap) (slO (some b4) 1 1)) 43, own ob cap 108 48 (plainC seed []).L.length ((plainC seed []).L.flatMap Sr.cells), own (some b4) 1 77 4 1 (znO (plZn, some b2, 4)), allI [own (some b2) 4 79 2 4 (plZn.L.flatMap Pt.cells)]]) (by repeat (first | exact Rea.nil | (apply Rea.cons; (solve | (repeat (first | exact Del.here | apply Del.there)))))) (RQ.post (resW rfl rfl Tryz.isAgg43 Tryz.sizeOf43 (by repeat (first | exact List.Mem.head _ | apply List.Mem.tail)) (hcl _ _)) (.drop (.keep (.keep (.keep .nil)))) ⟨ob, cap, some b4, 1, [(plZn, some b2, 4)], rfl, rfl, rfl, rfl⟩)))
    ·
      refine RL.buildOwn [_, _, _, _] Tryz.runUnderlying41 Tryz.sizeOf77 Tryz.zeroValue77 rfl rfl (by decide) (by decide) rfl (by decide) rfl rfl rfl rfl rfl rfl ?_
      intro b4
      refine RL.call (rplain_any seed none 0 0 [] rfl (by decide)) Tryz.call43 rfl rfl rfl rfl rfl (by repeat (first | exact Pick.nil | apply Pick.take | apply Pick.leave)) (Lend.none0 .nil) (.inr rfl) ?_
      rintro _ _ _ ⟨ob, cap, rfl, rfl, rfl⟩
      refine RL.buildS (plC (plainP seed) (slO ob (plainC seed []).L.length cap) (.slice (some ⟨b4, 0, none⟩) 1 1)) Tryz.zeroValue43 pl_43 rfl rfl rfl rfl rfl (RL.storeW Tryz.sizeOf43 rfl rfl rfl rfl rfl rfl rfl (pl_ones _ rfl rfl) (by repeat (first | exact Upd.here | apply Upd.there)) (hcl _ _) rfl ?_)
      refine RL.nil (NQ.seq (CW.ok [2] rfl (CW.ret ?_)))
      exact RQ.rea (fun _ h => h) (H' := [own (some b2) 4 79 2 4 (plZn.L.flatMap Pt.cells), cel b1 (plC (plainP seed) (slO ob (plainC seed []).L.length cap) (slO (some b4) 1 1)) 43, own ob cap 108 48 (plainC seed []).L.length ((plainC seed []).L.flatMap Sr.cells), own (some b4) 1 77 4 1 (znO (plZn, some b2, 4))]) (by repeat (first | exact Rea.nil | (apply Rea.cons; (solve | (repeat (first | exact Del.here | apply Del.there)))))) (RQ.pack (l := [_]) (RQ.rea (fun _ h => h) (H' := [cel b1 (plC (plainP seed) (slO ob (plainC seed []).L.length cap) (slO (some b4) 1 1)) 43, own ob cap 108 48 (plainC seed []).L.length ((plainC seed []).L.flatMap Sr.cells), own (some b4) 1 77 4 1 (znO (plZn, some b2, 4)), allI [own (some b2) 4 79 2 4 (plZn.L.flatMap Pt.cells)]]) (by repeat (first | exact Rea.nil | (apply Rea.cons; (solve | (repeat (first | exact Del.here | apply Del.there)))))) (RQ.post (resW rfl rfl Tryz.isAgg43 Tryz.sizeOf43 (by repeat (first | exact List.Mem.head _ | apply List.Mem.tail)) (hcl _ _)) (.drop (.keep (.keep (.keep .nil)))) ⟨ob, cap, some b4, 1, [(plZn, some b2, 4)], rfl, rfl, rfl, rfl⟩)))
end Go.Proofs.YthndhipjfdgdfaaGreatDoor

namespace Go.Proofs.YthndhipjfdgdfaaGreatDoor
open Go.PK
/-! ### The law's plan for the reference -/
theorem fill_pl {P : Pl} (h : P.cf.cm.length = 32) (sl : Value) {places : Array (Nat × Nat)} (hp : places = #[(0, 45), (45, 1), (46, 1), (47, 1), (48, 1), (49, 1)]) :
    fillL (places[·]?) (plC zeroPl (.slice none 0 0) (.slice none 0 0)) [(0, .agg (P.cf.cells sl).toArray), (2, .int .i64 P.de), (3, .int .i64 P.ra), (4, .int .i64 P.mo), (5, .int .i64 P.sz)] = some (plC P sl (.slice none 0 0)) := by
  subst hp
  have hl := cf_len h sl
  refine fill_seg [] (zeroPl.cf.cells (.slice none 0 0)) [.slice none 0 0, .int .i64 0, .int .i64 0, .int .i64 0, .int .i64 0] rfl (agg_cells _) rfl rfl rfl hl ?_
  refine fill_seg (vs := [.int .i64 P.de]) (P.cf.cells sl ++ [.slice none 0 0]) [.int .i64 0] [.int .i64 0, .int .i64 0, .int .i64 0] rfl rfl (by simp) (by simp [hl]) rfl rfl ?_
  refine fill_seg (vs := [.int .i64 P.ra]) (P.cf.cells sl ++ [.slice none 0 0, .int .i64 P.de]) [.int .i64 0] [.int .i64 0, .int .i64 0] rfl rfl (by simp) (by simp [hl]) rfl rfl ?_
  refine fill_seg (vs := [.int .i64 P.mo]) (P.cf.cells sl ++ [.slice none 0 0, .int .i64 P.de, .int .i64 P.ra]) [.int .i64 0] [.int .i64 0] rfl rfl (by simp) (by simp [hl]) rfl rfl ?_
  refine fill_seg (vs := [.int .i64 P.sz]) (P.cf.cells sl ++ [.slice none 0 0, .int .i64 P.de, .int .i64 P.ra, .int .i64 P.mo]) [.int .i64 0] [] rfl rfl (by simp) (by simp [hl]) rfl rfl ?_
  simp [plC, fillL]
theorem pl_zset {P : Pl} (h : P.cf.cm.length = 32) (sl zl zl' : Value) : spl (plC P sl zl) (0 + 45) [zl'] = plC P sl zl' := by
  have hl := cf_len h sl
  rw [plC, plC]
  exact seg_spl (A := P.cf.cells sl) (B := [zl]) (C := [.int .i64 P.de, .int .i64 P.ra, .int .i64 P.mo, .int .i64 P.sz]) (by rw [hl]) rfl
theorem zo_step {ZL : List ZO} {zs : List Zn} {i : Nat} {z : Zn} (h : ZL.map (·.1) = zs.take i) (hz : zs[i]? = some z) (ob : Option Nat) (cp : Nat) : (ZL ++ [((z, ob, cp) : ZO)]).map (·.1) = zs.take (i + 1) := by
  rw [List.map_append, h, List.take_add_one, hz]; rfl
theorem zo_flat (ZL : List ZO) (z : Zn) (ob : Option Nat) (cp : Nat) : ZL.flatMap znO ++ znC z.keep (slO ob z.L.length cp) z.fl z.rf = (ZL ++ [((z, ob, cp) : ZO)]).flatMap znO := by rw [List.flatMap_append]; simp [znO]
theorem zo_perm (T : TypeId) (ZL : List ZO) (x : ZO) : ((ZL ++ [x]).map (znT T)).Perm (znT T x :: ZL.map (znT T)) := by rw [List.map_append]; exact List.perm_append_comm
theorem Cls.poolNew {w0 w : World} {S : List Nat} {I B : List It} (h : Cls w0 S I B w) : Cls w0 S I (PK.allI [] :: B) w := Cls.pack (l := []) h
theorem lpl_any (P : Pl) (oa oz : Option Nat) (ca cz n m : Nat) (ZL : List ZO) (hn : P.cf.L.length = n) (hm : P.zs.length = m) (hzl : ZL.map (·.1) = P.zs) (hcm : P.cf.cm.length = 32) (hrt : ∀ s ∈ P.cf.L, s.rt.length = 32) (hl : n ≤ 12) (hz : m ≤ 12) (hp : ∀ z ∈ P.zs, z.L.length ≤ 20) :
    Spc Tryz.prog 7 #[.agg (plC P (slO oa n ca) (slO oz m cz)).toArray] (plI P oa oz ZL) [] (PlR 108 77 79 P) := by
  subst hn hm
  have hcl := cf_len hcm (slO oa P.cf.L.length ca)
  have hpl := pl_len hcm (slO oa P.cf.L.length ca) (slO oz P.zs.length cz)
  have hlz : ZL.length = P.zs.length := by rw [← hzl, List.length_map]
  have hpr := fun sl zl => pl_len (P := P) hcm sl zl
  refine Spc.enter Tryz.func7 rfl rfl rfl (fun w0 hw0 => ?_)
  refine CW.seq (CW.region (ef := [0, 1]) (bk := []) (RL.box rfl rfl rfl rfl rfl rfl ?_))
  intro b1
  refine RL.alloc Tryz.zeroValue43 rfl rfl rfl rfl rfl ?_
  intro b2
  refine RL.nil (NQ.seq (CW.seq (CW.freezeP (A := [cel b1 (plC P (slO oa P.cf.L.length ca) (slO oz P.zs.length cz)) 35]) (B := [cel b2 (plC zeroPl (.slice none 0 0) (.slice none 0 0)) 43]) (by repeat (first | exact Pick.nil | apply Pick.take | apply Pick.leave)) rfl ?_)))
  refine CW.genI (fun J hJ => ?_)
  have hP : (PLift (P.cf.cm.length = 32)) := ⟨hcm⟩
  have m1 : cel b1 (plC P (slO oa P.cf.L.length ca) (slO oz P.zs.length cz)) 35 ∈ J := hJ _ (by simp)
  have m2 : sls (oa.map fun b => ⟨b, 0, none⟩) 48 P.cf.L.length (P.cf.L.flatMap Sr.cells) ∈ J := hJ _ (by simp)
  have m3 : sls (oz.map fun b => ⟨b, 0, none⟩) 4 P.zs.length (ZL.flatMap znO) ∈ J := hJ _ (by simp)
  have m4 : ∀ z ∈ ZL, znS z ∈ J := fun z hz => hJ _ (by repeat (first | exact List.mem_map_of_mem hz | apply List.mem_cons_of_mem))
  clear hJ
  have fC : RdsN J ⟨b1, 0 + 0, none⟩ 45 (P.cf.cells (slO oa P.cf.L.length ca)) := RdsN.told m1 (pl_cf hcm _ _) (cf_len hcm _)
  have fZ : RdI J ⟨b1, 0 + 45, none⟩ (slO oz P.zs.length cz) := ⟨fun _ => Rd.getI m1 (pl_tl hcm _ _ 0)⟩
  have f6 : RdI J ⟨b1, 0 + 46, none⟩ (.int .i64 P.de) := ⟨fun _ => Rd.getI m1 (pl_tl hcm _ _ 1)⟩
  have f7 : RdI J ⟨b1, 0 + 47, none⟩ (.int .i64 P.ra) := ⟨fun _ => Rd.getI m1 (pl_tl hcm _ _ 2)⟩
  have f8 : RdI J ⟨b1, 0 + 48, none⟩ (.int .i64 P.mo) := ⟨fun _ => Rd.getI m1 (pl_tl hcm _ _ 3)⟩
  have f9 : RdI J ⟨b1, 0 + 49, none⟩ (.int .i64 P.sz) := ⟨fun _ => Rd.getI m1 (pl_tl hcm _ _ 4)⟩
  refine CW.cutG (γ := Nat × Option Nat × Nat) (fun _ => True) (fun g => [(1, .pointer (some ⟨b1, 0, none⟩)), (2, .pointer (some ⟨b2, 0, none⟩)), (3, .pointer (some ⟨g.1, 0, none⟩))]) (fun _ => J) (fun g => [cel g.1 (plC P (slO g.2.1 P.cf.L.length g.2.2) (.slice none 0 0)) 43, cel b2 (plC zeroPl (.slice none 0 0) (.slice none 0 0)) 43, own g.2.1 g.2.2 108 48 P.cf.L.length (P.cf.L.flatMap Sr.cells)]) ?_ ?_
  ·
    refine CW.regionD (.cons 0 (.cons 1 (.cons 3 (.cons 4 (.cons 5 (.cons 6 (.cons 7 (.cons 8 (.cons 9 (.cons 10 (.fork [2, 12] (fun k => (bif Nat.beq k 2 then (Sq.of [11, 12, 13]) else (Sq.of [2, 11, 13])))))))))))))) [2, 12, 13] [2, 13] [0, 1, 3, 4, 5, 6, 7, 8, 9, 10, 11] mixed (by kernel_rfl) ?_
    refine RL.fieldAddr fa_35_0 rfl rfl rfl rfl (RL.loadSTq Tryz.isAgg32 Tryz.sizeOf32 rfl rfl rfl rfl ?_)
    refine RL.fieldAddr fa_35_2 rfl rfl rfl rfl (RL.loadTq Tryz.isAgg3 rfl rfl rfl rfl ?_)
    refine RL.fieldAddr fa_35_3 rfl rfl rfl rfl (RL.loadTq Tryz.isAgg3 rfl rfl rfl rfl ?_)
    refine RL.fieldAddr fa_35_4 rfl rfl rfl rfl (RL.loadTq Tryz.isAgg3 rfl rfl rfl rfl ?_)
    refine RL.fieldAddr fa_35_5 rfl rfl rfl rfl (RL.loadTq Tryz.isAgg3 rfl rfl rfl rfl ?_)
    refine RL.fork ⟨?_, ?_, trivial⟩
    ·
      refine RL.call (lplain_any P.cf oa ca _ rfl hcm hrt hl) Tryz.call25 rfl rfl rfl rfl rfl (by repeat (first | exact Pick.nil | apply Pick.take | apply Pick.leave)) (.inI m2 .nil) (.inr rfl) ?_
      rintro _ _ _ ⟨ob, cap, rfl, rfl, rfl⟩
      refine RL.buildS (plC P (slO ob P.cf.L.length cap) (.slice none 0 0)) Tryz.zeroValue43 pl_43 rfl rfl rfl rfl (fill_pl hcm _ rfl) (RL.alloc Tryz.zeroValue43 rfl rfl rfl rfl rfl ?_)
      intro b3
      refine RL.storeW Tryz.sizeOf43 rfl rfl rfl rfl rfl rfl rfl (pl_ones _ rfl rfl) (by repeat (first | exact Upd.here | apply Upd.there)) (hpr _ _) rfl ?_
      refine RL.nil ?_
      exact NQ.midG (b3, ob, cap) trivial (.cons rfl (.cons rfl (.cons rfl .nil))) (fun w h => h.rea (fun _ h => h) (by repeat (first | exact Rea.nil | (apply Rea.cons; (solve | (repeat (first | exact Del.here | apply Del.there)))))))
    ·
      refine RL.alloc Tryz.zeroValue43 rfl rfl rfl rfl rfl ?_
      intro b3
      refine RL.call (lplain_any P.cf oa ca _ rfl hcm hrt hl) Tryz.call25 rfl rfl rfl rfl rfl (by repeat (first | exact Pick.nil | apply Pick.take | apply Pick.leave)) (.inI m2 .nil) (.inr rfl) ?_
      rintro _ _ _ ⟨ob, cap, rfl, rfl, rfl⟩
      refine RL.buildS (plC P (slO ob P.cf.L.length cap) (.slice none 0 0)) Tryz.zeroValue43 pl_43 rfl rfl rfl rfl (fill_pl hcm _ rfl) (RL.storeW Tryz.sizeOf43 rfl rfl rfl rfl rfl rfl rfl (pl_ones _ rfl rfl) (by repeat (first | exact Upd.here | apply Upd.there)) (hpr _ _) rfl ?_)
      refine RL.nil ?_
      exact NQ.midG (b3, ob, cap) trivial (.cons rfl (.cons rfl (.cons rfl .nil))) (fun w h => h.rea (fun _ h => h) (by repeat (first | exact Rea.nil | (apply Rea.cons; (solve | (repeat (first | exact Del.here | apply Del.there)))))))
  rintro ⟨bq, ob, cap⟩ -
  dsimp only
  refine CW.seq (CW.seq (CW.rg (RL.p rfl (RL.nil (NQ.seq (CW.block (CW.ownNone (e := 77) 4 ?_)))))))
  refine CW.loop (γ := Nat × Option Nat × Nat × List ZO) (fun g => g.1 ≤ P.zs.length ∧ g.2.2.2.map (·.1) = P.zs.take g.1) (fun g => [(1, .pointer (some ⟨b1, 0, none⟩)), (2, .pointer (some ⟨b2, 0, none⟩)), (3, .pointer (some ⟨bq, 0, none⟩)), (4, .int .i64 (g.1 : Int))]) (fun _ => J)
    (fun g => [cel bq (plC P (slO ob P.cf.L.length cap) (slO g.2.1 g.1 g.2.2.1)) 43, own g.2.1 g.2.2.1 77 4 g.1 (g.2.2.2.flatMap znO), allI (g.2.2.2.map (znT 79)), cel b2 (plC zeroPl (.slice none 0 0) (.slice none 0 0)) 43, own ob cap 108 48 P.cf.L.length (P.cf.L.flatMap Sr.cells)]) (fun g => P.zs.length - g.1) (0, none, 0, []) ⟨Nat.zero_le _, rfl⟩ (.cons rfl (.cons rfl (.cons rfl (.cons rfl .nil)))) (fun w h => (Cls.poolNew h).rea (fun _ h => h) (by repeat (first | exact Rea.nil | (apply Rea.cons; (solve | (repeat (first | exact Del.here | apply Del.there))))))) ?_
  rintro ⟨i, oy, cy, YL⟩ ⟨hi, hy⟩
  dsimp only at hi hy ⊢
  refine CW.fact (p := oz = none → P.zs.length = 0) (fun w hC e => sls_nil (hC.s.i _ m3) (by rw [e]; rfl)) (fun hpa => ?_)
  refine CW.seq (CW.seq (CW.rg (RL.p rfl (RL.fieldAddr fa_35_1 rfl rfl rfl rfl (RL.loadq Tryz.isAgg33 rfl rfl rfl rfl ?_)))))
  refine RL.lenS Tryz.runUnderlying33 rfl rfl rfl rfl (RL.p rfl (RL.p rfl ?_))
  apply RL.andB (d := 24) (dp := 27) (l' := (Sq.of [])) rfl (sK [1, 2, 3, 4] rfl)
  ·
    intro hb6 K6
    refine RL.p rfl (RL.p rfl (RL.p rfl ?_))
    exact K6 _ (.cons rfl (sK [1, 2, 3, 4] rfl))
  ·
    intro hb6 K6
    refine RL.p rfl (RL.p rfl (RL.p rfl ?_))
    exact K6 _ (.cons rfl (sK [1, 2, 3, 4] rfl))
  refine RL.nil (NQ.seq ?_)
  refine CW.cond rfl (fun hlt => ?_) (fun hlt => ?_)
  ·
    have hlt' : i < P.zs.length := by simp at hlt; omega
    cases oz with
    | none => exact absurd (hpa rfl) (by omega)
    | some bz =>
    obtain ⟨⟨z, oc, cc⟩, hzx⟩ : ∃ z, ZL[i]? = some z := ⟨_, List.getElem?_eq_getElem (by omega)⟩
    have hz1 : P.zs[i]? = some z := by rw [← hzl, List.getElem?_map, hzx]; rfl
    have hzm := List.mem_of_getElem? hzx
    have hp20 := hp z (List.mem_of_getElem? hz1)
    have mz := m4 _ hzm
    have e0 : RdI J ⟨bz, 0 + i * 4 + 0, none⟩ (.bool z.keep) := flat_rdI (f := znO) m3 hzx (fun z _ => znO_len z) rfl
    have e1 : RdI J ⟨bz, 0 + i * 4 + 1, none⟩ (slO oc z.L.length cc) := flat_rdI (f := znO) m3 hzx (fun z _ => znO_len z) rfl
    have e2 : RdI J ⟨bz, 0 + i * 4 + 2, none⟩ (.int .i64 z.fl) := flat_rdI (f := znO) m3 hzx (fun z _ => znO_len z) rfl
    have e3 : RdI J ⟨bz, 0 + i * 4 + 3, none⟩ (.int .i64 z.rf) := flat_rdI (f := znO) m3 hzx (fun z _ => znO_len z) rfl
    have ms : sls (oc.map fun b => ⟨b, 0, none⟩) 2 z.L.length (z.L.flatMap Pt.cells) ∈ J := mz
    refine CW.skip (NQ.seq (CW.seq (CW.block (CW.seq (CW.regionD (Sq.of [0, 1, 2, 3, 4, 5, 6, 7, 8, 9, 10, 11, 12, 13, 14, 15, 16, 17, 18, 19, 20]) [19, 20] [20] [0, 1, 2, 3, 4, 5, 6, 7, 8, 9, 10, 11, 12, 13, 14, 15, 16, 17, 18] mixed (by kernel_rfl) ?_)))))
    refine RL.fieldAddr fa_35_1 rfl rfl rfl rfl (RL.loadTq Tryz.isAgg33 rfl rfl rfl rfl ?_)
    refine RL.p rfl (RL.idxAt (j := i) Tryz.runUnderlying33 Tryz.sizeOf73 rfl rfl rfl rfl rfl rfl (hlt') (RL.fieldAddr fa_73_0 rfl rfl rfl rfl (RL.loadTq Tryz.isAgg4 rfl rfl rfl rfl ?_)))
    refine RL.fieldAddr fa_35_1 rfl rfl rfl rfl (RL.loadTq Tryz.isAgg33 rfl rfl rfl rfl ?_)
    refine RL.p rfl (RL.idxAt (j := i) Tryz.runUnderlying33 Tryz.sizeOf73 rfl rfl rfl rfl rfl rfl (hlt') (RL.fieldAddr fa_73_2 rfl rfl rfl rfl (RL.loadTq Tryz.isAgg23 rfl rfl rfl rfl ?_)))
    refine RL.fieldAddr fa_35_1 rfl rfl rfl rfl (RL.loadTq Tryz.isAgg33 rfl rfl rfl rfl ?_)
    refine RL.p rfl (RL.idxAt (j := i) Tryz.runUnderlying33 Tryz.sizeOf73 rfl rfl rfl rfl rfl rfl (hlt') (RL.fieldAddr fa_73_3 rfl rfl rfl rfl (RL.loadTq Tryz.isAgg23 rfl rfl rfl rfl ?_)))
    refine RL.buildS [_, _, _, _] Tryz.zeroValue77 pl_77 rfl rfl rfl rfl rfl (RL.alloc Tryz.zeroValue77 rfl rfl rfl rfl rfl ?_)
    intro b3
    refine RL.store (vs := [_, _, _, _]) Tryz.sizeOf77 rfl rfl rfl rfl rfl rfl rfl rfl rfl (by repeat (first | exact Upd.here | apply Upd.there)) ?_
    refine RL.nil (NQ.seq (CW.ok [1, 2, 3, 4, 5] rfl (CW.seq (CW.seq (CW.rg (RL.p rfl (RL.nil (NQ.seq (CW.block (CW.ownNone (e := 79) 2 ?_))))))))))
    refine CW.loop (γ := Nat × Option Nat × Nat) (fun g => g.1 ≤ z.L.length) (fun g => [(1, .pointer (some ⟨b1, 0, none⟩)), (2, .pointer (some ⟨b2, 0, none⟩)), (3, .pointer (some ⟨bq, 0, none⟩)), (4, .int .i64 (i : Int)), (5, .pointer (some ⟨b3, 0, none⟩)), (6, .int .i64 (g.1 : Int))]) (fun _ => J)
      (fun g => [cel b3 (znC z.keep (slO g.2.1 g.1 g.2.2) z.fl z.rf) 77, own g.2.1 g.2.2 79 2 g.1 ((z.L.take g.1).flatMap Pt.cells), cel bq (plC P (slO ob P.cf.L.length cap) (slO oy i cy)) 43, own oy cy 77 4 i (YL.flatMap znO), allI (YL.map (znT 79)), cel b2 (plC zeroPl (.slice none 0 0) (.slice none 0 0)) 43, own ob cap 108 48 P.cf.L.length (P.cf.L.flatMap Sr.cells)]) (fun g => z.L.length - g.1) (0, none, 0) (Nat.zero_le _) (.cons rfl (.cons rfl (.cons rfl (.cons rfl (.cons rfl (.cons rfl .nil)))))) (fun w h => h.rea (fun _ h => h) (by repeat (first | exact Rea.nil | (apply Rea.cons; (solve | (repeat (first | exact Del.here | apply Del.there))))))) ?_
    rintro ⟨k, op, cp⟩ hk
    dsimp only at hk ⊢
    refine CW.fact (p := oc = none → z.L.length = 0) (fun w hC e => sls_nil (hC.s.i _ ms) (by rw [e]; rfl)) (fun hpc => ?_)
    refine CW.seq (CW.seq (CW.rg (RL.p rfl (RL.fieldAddr fa_35_1 rfl rfl rfl rfl (RL.loadq Tryz.isAgg33 rfl rfl rfl rfl ?_)))))
    refine RL.p rfl (RL.idxAt (j := i) Tryz.runUnderlying33 Tryz.sizeOf73 rfl rfl rfl rfl rfl rfl (hlt') (RL.fieldAddr fa_73_1 rfl rfl rfl rfl (RL.loadq Tryz.isAgg71 rfl rfl rfl rfl ?_)))
    refine RL.lenS Tryz.runUnderlying71 rfl rfl rfl rfl (RL.p rfl (RL.p rfl ?_))
    apply RL.andB (d := 58) (dp := 61) (l' := (Sq.of [])) rfl (sK [1, 2, 3, 4, 5, 6] rfl)
    ·
      intro hb10 K10
      refine RL.p rfl (RL.p rfl (RL.p rfl ?_))
      exact K10 _ (.cons rfl (sK [1, 2, 3, 4, 5, 6] rfl))
    ·
      intro hb10 K10
      refine RL.p rfl (RL.p rfl (RL.p rfl ?_))
      exact K10 _ (.cons rfl (sK [1, 2, 3, 4, 5, 6] rfl))
    refine RL.nil (NQ.seq ?_)
    refine CW.cond rfl (fun hlk => ?_) (fun hlk => ?_)
    ·
      have hlk' : k < z.L.length := by simp at hlk; omega
      cases oc with
      | none => exact absurd (hpc rfl) (by omega)
      | some bc =>
      have hx := List.getElem?_eq_getElem hlk'
      have htk : z.L.take (k + 1) = z.L.take k ++ [z.L[k]] := by rw [List.take_add_one, hx]; rfl
      generalize z.L[k] = pt at hx htk
      have fA : RdsN J ⟨bc, 0 + k * 2, none⟩ 2 pt.cells := flat_rdsN (f := Pt.cells) ms hx (fun _ _ => rfl)
      refine CW.skip (NQ.seq (CW.seq (CW.block (CW.regionD (Sq.of [0, 1, 2, 3, 4, 5, 6, 7, 8, 9, 10, 11, 12, 13, 14]) [11, 12, 14] [12, 14] [0, 2, 3, 4, 5, 6, 7, 8, 9, 10, 13] mixed (by kernel_rfl) ?_))))
      refine RL.fieldAddr fa_77_1 rfl rfl rfl rfl (RL.loadq Tryz.isAgg75 rfl rfl rfl rfl ?_)
      refine RL.fieldAddr fa_35_1 rfl rfl rfl rfl (RL.loadTq Tryz.isAgg33 rfl rfl rfl rfl ?_)
      refine RL.p rfl (RL.idxAt (j := i) Tryz.runUnderlying33 Tryz.sizeOf73 rfl rfl rfl rfl rfl rfl (hlt') (RL.fieldAddr fa_73_1 rfl rfl rfl rfl (RL.loadTq Tryz.isAgg71 rfl rfl rfl rfl ?_)))
      refine RL.p rfl (RL.idxAt (j := k) Tryz.runUnderlying71 Tryz.sizeOf80 rfl rfl rfl rfl rfl rfl hlk' (RL.loadSTq Tryz.isAgg80 Tryz.sizeOf80 rfl rfl rfl rfl ?_))
      refine RL.buildSlice [_, _] Tryz.runUnderlying75 Tryz.sizeOf79 Tryz.zeroValue79 rfl rfl (by decide) (by decide) rfl rfl rfl rfl rfl rfl ?_
      intro b4
      refine RL.appendq el_75 rfl rfl rfl rfl rfl rfl rfl ?_
      intro ob1 cap1 ho1
      refine RL.fieldAddr fa_77_1 rfl rfl rfl rfl (RL.store (vs := [_]) Tryz.sizeOf75 rfl rfl rfl rfl rfl rfl rfl rfl rfl (by repeat (first | exact Upd.here | apply Upd.there)) ?_)
      refine RL.nil (NQ.block (NQ.seq (CW.ok [1, 2, 3, 4, 5, 6] rfl (CW.rg (RL.p rfl (RL.bx rfl (wrapV_i64 (by omega) (by omega)) ?_))))))
      refine RL.p rfl (RL.nil ?_)
      refine NQ.round (g := (k, op, cp)) (k + 1, ob1, cap1) hlk' (by show z.L.length - (k + 1) < z.L.length - k; omega) (.cons rfl (.cons rfl (.cons rfl (.cons rfl (.cons rfl (.cons rfl .nil)))))) (fun w h => by
        dsimp only
        rw [htk, List.flatMap_append]
        exact h.rea (fun _ h => h) (by repeat (first | exact Rea.nil | (apply Rea.cons; (solve | (repeat (first | exact Del.here | apply Del.there)))))))
    ·
      have hkn : k = z.L.length := by simp at hlk; omega
      subst hkn
      rw [List.take_length]
      refine CW.exit (XQ.seq (XQ.seq (XQ.hit (NQ.seq (CW.region (ef := [3, 4, 6]) (bk := [4, 6]) (RL.fieldAddr fa_43_1 rfl rfl rfl rfl (RL.load Tryz.isAgg41 rfl rfl rfl rfl (Rd.get (by repeat (first | exact List.Mem.head _ | apply List.Mem.tail)) (pl_tl hcm _ _ 0)) ?_)))))))
      refine RL.loadW Tryz.isAgg77 Tryz.sizeOf77 rfl rfl rfl rfl (by repeat (first | exact List.Mem.head _ | apply List.Mem.tail)) rfl ?_
      refine RL.buildSlice (znC z.keep (slO op z.L.length cp) z.fl z.rf) Tryz.runUnderlying41 Tryz.sizeOf77 Tryz.zeroValue77 rfl rfl (by decide) (by decide) rfl rfl rfl rfl rfl (fill_one4 rfl) ?_
      intro b4
      refine RL.appendA el_41 rfl rfl rfl rfl rfl rfl rfl (by first | exact ⟨(.take (Pick.none _)), rfl⟩ | exact ⟨(.leave (.take (Pick.none _))), rfl⟩ | exact ⟨(.leave (.leave (.take (Pick.none _)))), rfl⟩ | exact ⟨(.leave (.leave (.leave (.take (Pick.none _))))), rfl⟩ | exact ⟨(.leave (.leave (.leave (.leave (.take (Pick.none _)))))), rfl⟩ | exact ⟨(.leave (.leave (.leave (.leave (.leave (.take (Pick.none _))))))), rfl⟩ | exact ⟨(.leave (.leave (.leave (.leave (.leave (.leave (.take (Pick.none _)))))))), rfl⟩ | exact ⟨(.leave (.leave (.leave (.leave (.leave (.leave (.leave (.take (Pick.none _))))))))), rfl⟩ | exact ⟨(.leave (.leave (.leave (.leave (.leave (.leave (.leave (.leave (.take (Pick.none _)))))))))), rfl⟩ | exact ⟨(.leave (.leave (.leave (.leave (.leave (.leave (.leave (.leave (.leave (.take (Pick.none _))))))))))), rfl⟩) (Src.cel (cs := znC z.keep (slO op z.L.length cp) z.fl z.rf) (by repeat (first | exact List.Mem.head _ | apply List.Mem.tail)) rfl) (ones_spec rfl) (by first | omega | (simp only [maxLen]; omega)) (by first | omega | (simp only [maxLen]; omega)) ?_
      intro ob1 cap1 ho1
      refine RL.fieldAddr fa_43_1 rfl rfl rfl rfl (RL.storeX (vs := [_]) (pl_zset hcm _ _ _) Tryz.sizeOf41 rfl rfl rfl rfl rfl rfl rfl rfl (by repeat (first | exact Upd.here | apply Upd.there)) (by rw [hpr]; exact Nat.le_of_ble_eq_true rfl) ?_)
      refine RL.nil (NQ.block (NQ.seq (CW.ok [1, 2, 3, 4] rfl (CW.rg (RL.p rfl (RL.bx rfl (wrapV_i64 (by omega) (by omega)) ?_))))))
      refine RL.p rfl (RL.nil ?_)
      refine NQ.round (g := (i, oy, cy, YL)) (i + 1, ob1, cap1, YL ++ [(z, op, cp)]) ⟨hlt', zo_step hy hz1 op cp⟩ (by show P.zs.length - (i + 1) < P.zs.length - i; omega) (.cons rfl (.cons rfl (.cons rfl (.cons rfl .nil)))) (fun w h => by
        dsimp only
        rw [← zo_flat]
        exact (Cls.pushA (zo_perm _ YL (z, op, cp)) (h.rea (H' := [own op cp 79 2 z.L.length (z.L.flatMap Pt.cells), allI (YL.map (znT 79)), cel bq (plC P (slO ob P.cf.L.length cap) (slO ob1 (i + 1) cap1)) 43, own ob1 cap1 77 4 (i + 1) (YL.flatMap znO ++ znC z.keep (slO op z.L.length cp) z.fl z.rf), cel b2 (plC zeroPl (.slice none 0 0) (.slice none 0 0)) 43, own ob cap 108 48 P.cf.L.length (P.cf.L.flatMap Sr.cells)]) (fun _ h => h) (by repeat (first | exact Rea.nil | (apply Rea.cons; (solve | (repeat (first | exact Del.here | apply Del.there)))))))).rea (fun _ h => h) (by repeat (first | exact Rea.nil | (apply Rea.cons; (solve | (repeat (first | exact Del.here | apply Del.there)))))))
  ·
    have hin : i = P.zs.length := by simp at hlt; omega
    subst hin
    rw [List.take_length] at hy
    refine CW.exit (XQ.seq (XQ.seq (XQ.hit (NQ.seq (CW.seq (CW.region (ef := [1]) (bk := [1]) (RL.loadW Tryz.isAgg43 Tryz.sizeOf43 rfl rfl rfl rfl (by repeat (first | exact List.Mem.head _ | apply List.Mem.tail)) (hpr _ _) ?_)))))))
    refine RL.storeW Tryz.sizeOf43 rfl rfl rfl rfl rfl rfl rfl (pl_ones _ rfl rfl) (by repeat (first | exact Upd.here | apply Upd.there)) (hpr _ _) rfl ?_
    refine RL.nil (NQ.seq (CW.ret (RQ.rea (fun _ h => h) (H' := [own ob cap 108 48 P.cf.L.length (P.cf.L.flatMap Sr.cells), own oy cy 77 4 P.zs.length (YL.flatMap znO), allI (YL.map (znT 79)), cel b2 (plC P (slO ob P.cf.L.length cap) (slO oy P.zs.length cy)) 43]) (by repeat (first | exact Rea.nil | (apply Rea.cons; (solve | (repeat (first | exact Del.here | apply Del.there)))))) ?_)))
    exact RQ.post (resW rfl rfl Tryz.isAgg43 Tryz.sizeOf43 (by repeat (first | exact List.Mem.head _ | apply List.Mem.tail)) (hpr _ _)) (.keep (.keep (.keep (Split.none _)))) ⟨ob, cap, oy, cy, YL, hy, rfl, rfl, rfl⟩
end Go.Proofs.YthndhipjfdgdfaaGreatDoor

namespace Go.Proofs.YthndhipjfdgdfaaGreatDoor
open Go.PK Go.RowKit Go.Shelf
/-! ### The law's example -/
theorem plain_prv : prV (plainP 1#8) = .tuple #[strV (prT (plainP 1#8)), .int .i64 0] := by kernel_rfl
theorem plain_parse : parseT (prT (plainP 1#8)) = (plainP 1#8, 0, 0) := by kernel_rfl
def pre38 : Tx := [103#8, 114#8, 97#8, 118#8, 105#8, 116#8, 121#8, 32#8, 48#8, 32#8, 48#8, 32#8, 52#8, 50#8, 57#8, 52#8, 57#8, 54#8, 55#8, 50#8, 57#8, 54#8, 48#8, 10#8]
theorem plain_pre : Lib.hasPrefix ((prT (plainP 1#8)).map UInt8.ofBitVec) (pre38.map UInt8.ofBitVec) = true := by kernel_rfl
theorem plain_len : (prT (plainP 1#8)).length < 4294967281 := Nat.le_of_ble_eq_true (by kernel_rfl)
instance (n : Int) : Decidable (i64 n) := inferInstanceAs (Decidable (_ ∧ _))
theorem plain_all : (plainP 1#8).All where
  n := of_decide_eq_true (by kernel_rfl)
  sd := of_decide_eq_true (by kernel_rfl)
  L := fun s hs => have h : ∀ s ∈ (plainP 1#8).cf.L, s.rt.length = 32 ∧ ∀ n ∈ s.nums, i64 n := of_decide_eq_true (by kernel_rfl)
    ⟨(h s hs).1, (h s hs).2⟩
  z := fun z hz => have h : ∀ z ∈ (plainP 1#8).zs, (i64 z.fl ∧ i64 z.rf) ∧ (∀ p ∈ z.L, i64 p.1 ∧ i64 p.2) ∧ z.L.length ≤ 100000 := of_decide_eq_true (by kernel_rfl)
    ⟨(h z hz).1.1, (h z hz).1.2, (h z hz).2.1, (h z hz).2.2⟩
  nl := Nat.le_of_ble_eq_true (by kernel_rfl)
  nz := Nat.le_of_ble_eq_true (by kernel_rfl)
theorem plain_fit (seed : B8) {ZL : List ZO} (h : ZL.map (·.1) = (plainP seed).zs) : (plainP seed).Fit ZL where
  cf := plainC_fit seed []
  zl := h
  nl := Nat.le_trans (plainL_len seed [] 6) (by decide)
  nz := Nat.le_of_ble_eq_true rfl
  np := fun z hz => by
    have h1 : z.1 ∈ (plainP seed).zs := by rw [← h]; exact List.mem_map_of_mem hz
    have h2 : z.1 = plZn := List.mem_singleton.1 h1
    rw [h2]; decide
theorem Lend.app {I F : List It} : ∀ {A B : List It}, Lend I F A → Lend I F B → Lend I F (A ++ B)
  | [], _, _, hb => hb
  | x :: A, B, ha, hb => by
    cases ha with
    | inI h1 h2 => exact .inI h1 (Lend.app h2 hb)
    | inH h1 h2 => exact .inH h1 (Lend.app h2 hb)
    | of h1 h2 h3 => exact .of h1 h2 (Lend.app h3 hb)
theorem lend_zT {T : TypeId} {I F : List It} {ZL : List ZO} (hm : PK.allI (ZL.map (znT T)) ∈ F ∨ PK.allI (ZL.map (znT T)) ∈ I) : ∀ l : List ZO, (∀ z ∈ l, z ∈ ZL) → Lend I F (l.map znS)
  | [], _ => .nil
  | z :: l, h => by
    have hz := h z (List.mem_cons_self ..)
    refine Lend.of (fun w hw => ?_) (fun b hb => ?_) (lend_zT hm l (fun x hx => h x (List.mem_cons_of_mem _ hx)))
    · have h1 := (hm.elim (hw.h _) (hw.i _)) (znT T z) (List.mem_map_of_mem hz)
      exact own_sls h1
    · have h2 : b ∈ (znT T z).bs := by
        simp only [znS, sls] at hb
        simp only [znT, own]
        by_cases h0 : z.1.L.length = 0
        · rw [if_pos h0] at hb; cases hb
        · rw [if_neg h0] at hb
          cases hz1 : z.2.1 <;> rw [hz1] at hb <;> simp at hb
          subst hb; simp
      have h3 : b ∈ (PK.allI (ZL.map (znT T))).bs := mem_bss.2 ⟨_, List.mem_map_of_mem hz, h2⟩
      exact hm.elim (fun h => .inr (mem_bss.2 ⟨_, h, h3⟩)) (fun h => .inl (mem_bss.2 ⟨_, h, h3⟩))
theorem pre_any (s p : Tx) : Spc Tryz.prog 44 #[strV s, strV p] [] [] (Is (.bool (Lib.hasPrefix (s.map UInt8.ofBitVec) (p.map UInt8.ofBitVec)))) := Spc.ofB fun w hw =>
  (Any.strings_HasPrefix Tryz.lPre _ _ w).mono (by
    rintro e w' ⟨rfl, rfl⟩
    exact ⟨by simp [txt], Below.refl _ _⟩)
theorem works38 : Spc Tryz.prog 15 #[] [gvI] [] (Is (.bool true)) := by
  have hpl := fun sl zl => pl_len (P := plainP 1#8) rfl sl zl
  have hpv := plain_prv
  have hpp := plain_parse
  have hpr := plain_pre
  have hln := plain_len
  generalize hs : prT (plainP 1#8) = s at hpv hpp hpr hln
  refine Spc.enter Tryz.func15 rfl rfl rfl (fun w0 hw0 => ?_)
  refine CW.seq (CW.rg (RL.p rfl (RL.nil (NQ.seq (CW.seq (CW.region (ef := [0, 1]) (bk := [0]) (RL.call (gplain_any 1#8) Tryz.call13 rfl rfl rfl rfl rfl (by repeat (first | exact Pick.nil | apply Pick.take | apply Pick.leave)) .nil (.inr rfl) ?_)))))))
  rintro _ _ _ ⟨oa, ca, oz, cz, ZL, hzl, rfl, rfl, rfl⟩
  have hgp := gprint_any (plainP 1#8) oa oz ca cz ZL (plain_fit _ hzl) plain_all
  rw [hpv] at hgp
  have hga := gparse_any s
  rw [hpp] at hga
  simp only [plT]
  refine RL.callv (hgp) Tryz.call8 rfl rfl rfl rfl (.inI (List.Mem.head _) (Lend.own (by repeat (first | exact List.Mem.head _ | apply List.Mem.tail)) (Lend.own (by repeat (first | exact List.Mem.head _ | apply List.Mem.tail)) (lend_zT (.inl (by repeat (first | exact List.Mem.head _ | apply List.Mem.tail))) _ (fun _ h => h))))) ?_
  refine RL.p rfl (RL.p rfl (RL.p rfl (RL.p rfl (RL.p rfl (RL.nil (NQ.seq (CW.ok [1, 2] rfl (CW.seq (CW.region (ef := [1, 6, 7]) (bk := [1, 7]) (RL.p rfl (RL.call (hga) Tryz.call16 rfl rfl rfl rfl rfl (by repeat (first | exact Pick.nil | apply Pick.take | apply Pick.leave)) (.inI (List.Mem.head _) .nil) (.inr rfl) ?_)))))))))))
  rintro _ _ _ ⟨oa2, ca2, oz2, cz2, ZL2, hzl2, rfl, rfl, rfl⟩
  simp only [plH]
  refine RL.p rfl (RL.p rfl (RL.p rfl (RL.p rfl (RL.alloc Tryz.zeroValue35 rfl rfl rfl rfl rfl ?_))))
  intro b1
  refine RL.storeW Tryz.sizeOf35 rfl rfl rfl rfl rfl rfl rfl (pl_ones _ rfl rfl) (by repeat (first | exact Upd.here | apply Upd.there)) (hpl _ _) rfl ?_
  refine RL.p rfl (RL.p rfl (RL.nil (NQ.seq (CW.ok [1, 2, 3, 4, 5] rfl (CW.seq (CW.rg (RL.p rfl (RL.p rfl (RL.p rfl ?_)))))))))
  apply RL.andB (d := 19) (dp := 22) (l' := (Sq.of [6, 7, 8, 9, 10, 11, 12, 13, 14, 15, 16, 17, 18, 19, 20, 21, 22, 23, 24, 25])) rfl (sK [3, 4, 5] rfl)
  ·
    intro hb3 K3
    refine RL.p rfl (RL.callvq (pre_any s pre38) Tryz.call44 rfl rfl rfl rfl ?_)
    refine RL.p rfl ?_
    exact K3 _ (.cons rfl (sK [3, 4, 5] rfl))
  ·
    intro hb3 K3
    refine RL.p rfl (RL.p rfl (RL.p rfl ?_))
    exact K3 _ (.cons rfl (sK [3, 4, 5] rfl))
  refine RL.p rfl ?_
  apply RL.andB (d := 23) (dp := 26) (l' := (Sq.of [10, 11, 12, 13, 14, 15, 16, 17, 18, 19, 20, 21, 22, 23, 24, 25])) rfl (sK [3, 5] rfl)
  ·
    intro hb7 K7
    refine RL.p rfl (RL.p rfl (RL.p rfl ?_))
    exact K7 _ (.cons rfl (sK [3, 5] rfl))
  ·
    intro hb7 K7
    refine RL.p rfl (RL.p rfl (RL.p rfl ?_))
    exact K7 _ (.cons rfl (sK [3, 5] rfl))
  refine RL.p rfl ?_
  apply RL.andB (d := 27) (dp := 30) (l' := (Sq.of [14, 15, 16, 17, 18, 19, 20, 21, 22, 23, 24, 25])) rfl (sK [3] rfl)
  ·
    intro hb11 K11
    refine RL.p rfl (RL.p rfl (RL.p rfl ?_))
    exact K11 _ (.cons rfl (sK [3] rfl))
  ·
    intro hb11 K11
    refine RL.p rfl (RL.p rfl (RL.p rfl ?_))
    exact K11 _ (.cons rfl (sK [3] rfl))
  refine RL.p rfl ?_
  apply RL.andB (d := 31) (dp := 36) (l' := (Sq.of [20, 21, 22, 23, 24, 25])) rfl (sK [3] rfl)
  ·
    intro hb15 K15
    refine RL.fieldAddr fa_35_1 rfl rfl rfl rfl (RL.loadq Tryz.isAgg33 rfl rfl rfl rfl ?_)
    refine RL.lenS Tryz.runUnderlying33 rfl rfl rfl rfl (RL.p rfl (RL.p rfl ?_))
    exact K15 _ (.cons rfl (sK [3] rfl))
  ·
    intro hb15 K15
    refine RL.p rfl (RL.p rfl (RL.p rfl (RL.p rfl (RL.p rfl ?_))))
    exact K15 _ (.cons rfl (sK [3] rfl))
  refine RL.p rfl ?_
  apply RL.andB (d := 37) (dp := 41) (l' := (Sq.of [25])) rfl .nil
  ·
    intro hb21 K21
    refine RL.fieldAddr fa_35_5 rfl rfl rfl rfl (RL.loadq Tryz.isAgg3 rfl rfl rfl rfl ?_)
    refine RL.p rfl (RL.p rfl ?_)
    exact K21 _ (.cons rfl .nil)
  ·
    intro hb21 K21
    refine RL.p rfl (RL.p rfl (RL.p rfl (RL.p rfl ?_)))
    exact K21 _ (.cons rfl .nil)
  refine RL.p rfl (RL.nil (NQ.seq (CW.ret ?_)))
  exact RQ.post (res1 rfl rfl) (Split.none _) ⟨by rw [hpr]; rfl, rfl, rfl⟩
end Go.Proofs.YthndhipjfdgdfaaGreatDoor

namespace Go.Proofs.YthndhipjfdgdfaaGreatDoor
open Go.PK
/-! ### The same plans -/
theorem eq_slot (d : Nat) (s : Sch) (w : World) : (Op.equalIn (d + 2) 38 (.agg s.cells.toArray) (.agg s.cells.toArray)).run Tryz.prog w = .ok true w := by
  rw [run_equalIn_struct (P := Tryz.prog) w (d + 1) 38 _ _ (by kernel_rfl) (by kernel_rfl)]
  simp only [Program.fieldsOf, Tryz.underlying38]
  refine eqF_step (by decide) (part_s Tryz.isAgg3 rfl w) (eq_i64 Tryz.runUnderlying3 d _ w) ?_
  refine eqF_step (by decide) (part_s Tryz.isAgg3 rfl w) (eq_i64 Tryz.runUnderlying3 d _ w) ?_
  refine eqF_step (by decide) (part_s Tryz.isAgg3 rfl w) (eq_i64 Tryz.runUnderlying3 d _ w) ?_
  refine eqF_step (by decide) (part_s Tryz.isAgg3 rfl w) (eq_i64 Tryz.runUnderlying3 d _ w) ?_
  rfl
theorem neqs_slot (s : Sch) (x y : Operand) (w : World) : (do eqGuard .neq 38 x y (.agg s.cells.toArray) (.agg s.cells.toArray); binOp .neq 38 (.agg s.cells.toArray) (.agg s.cells.toArray) : Sem Value).run Tryz.prog w = .ok (.bool false) w := by
  simp [run_eqGuard_agg, run_neq_struct, eq_slot 9998 s w]
theorem neqs_key (l : List B8) (h : l.length = 32) (x y : Operand) (w : World) : (do eqGuard .neq 29 x y (.agg (bytes l).toArray) (.agg (bytes l).toArray); binOp .neq 29 (.agg (bytes l).toArray) (.agg (bytes l).toArray) : Sem Value).run Tryz.prog w = .ok (.bool false) w := by
  simp [run_eqGuard_agg, run_neq_struct, eq_key 9998 l h w]
theorem lsame_any (P : Pl) (oA qA oB qB : Option Nat) (cA dA cB dB : Nat) (AL BL : List ZO) (hA : AL.map (·.1) = P.zs) (hB : BL.map (·.1) = P.zs) (hcm : P.cf.cm.length = 32) (hrt : ∀ s ∈ P.cf.L, s.rt.length = 32) (hnl : P.cf.L.length ≤ 1000000) (hnz : P.zs.length ≤ 1000000) (hnp : ∀ z ∈ P.zs, z.L.length ≤ 1000000) :
    Spc Tryz.prog 12 #[.agg (plC P (slO oA P.cf.L.length cA) (slO qA P.zs.length dA)).toArray, .agg (plC P (slO oB P.cf.L.length cB) (slO qB P.zs.length dB)).toArray] (plI P oA qA AL ++ plI P oB qB BL) [] (Is (.bool true)) := by
  have hla : AL.length = P.zs.length := by rw [← hA, List.length_map]
  have hlb : BL.length = P.zs.length := by rw [← hB, List.length_map]
  have hLl : ∀ s ∈ P.cf.L, s.cells.length = 48 := fun s hs => sr_len (hrt s hs)
  have h45 := fun sl => cf_len hcm sl
  refine Spc.enter Tryz.func12 rfl rfl rfl (fun w0 hw0 => ?_)
  refine CW.seq (CW.region (ef := [0, 1]) (bk := []) (RL.box rfl rfl rfl rfl rfl rfl ?_))
  intro b1
  refine RL.box rfl rfl rfl rfl rfl rfl ?_
  intro b2
  refine RL.p rfl (RL.nil (NQ.seq (CW.seq (CW.freezeAll rfl ?_))))
  refine CW.genI (fun J hJ => ?_)
  have a1 : cel b1 (plC P (slO oA P.cf.L.length cA) (slO qA P.zs.length dA)) 43 ∈ J := hJ _ (by simp)
  have c1 : RdsN J ⟨b1, 0 + 0, none⟩ 45 (P.cf.cells (slO oA P.cf.L.length cA)) := RdsN.told a1 (pl_cf hcm _ _) (cf_len hcm _)
  have sA : sls (oA.map fun b => ⟨b, 0, none⟩) 48 P.cf.L.length (P.cf.L.flatMap Sr.cells) ∈ J := hJ _ (by simp)
  have zA : sls (qA.map fun b => ⟨b, 0, none⟩) 4 P.zs.length (AL.flatMap znO) ∈ J := hJ _ (by simp)
  have tA : ∀ z ∈ AL, znS z ∈ J := fun z hz => hJ _ (by have h := List.mem_map_of_mem (f := znS) hz; simp only [List.mem_append, List.mem_cons, h, true_or, or_true])
  have p51 : RdI J ⟨b1, 0 + 45, none⟩ (slO qA P.zs.length dA) := ⟨fun _ => Rd.getI a1 (pl_tl hcm _ _ 0)⟩
  have p61 : RdI J ⟨b1, 0 + 46, none⟩ (.int .i64 P.de) := ⟨fun _ => Rd.getI a1 (pl_tl hcm _ _ 1)⟩
  have p71 : RdI J ⟨b1, 0 + 47, none⟩ (.int .i64 P.ra) := ⟨fun _ => Rd.getI a1 (pl_tl hcm _ _ 2)⟩
  have p81 : RdI J ⟨b1, 0 + 48, none⟩ (.int .i64 P.mo) := ⟨fun _ => Rd.getI a1 (pl_tl hcm _ _ 3)⟩
  have p91 : RdI J ⟨b1, 0 + 49, none⟩ (.int .i64 P.sz) := ⟨fun _ => Rd.getI a1 (pl_tl hcm _ _ 4)⟩
  have a2 : cel b2 (plC P (slO oB P.cf.L.length cB) (slO qB P.zs.length dB)) 43 ∈ J := hJ _ (by simp)
  have c2 : RdsN J ⟨b2, 0 + 0, none⟩ 45 (P.cf.cells (slO oB P.cf.L.length cB)) := RdsN.told a2 (pl_cf hcm _ _) (cf_len hcm _)
  have sB : sls (oB.map fun b => ⟨b, 0, none⟩) 48 P.cf.L.length (P.cf.L.flatMap Sr.cells) ∈ J := hJ _ (by simp)
  have zB : sls (qB.map fun b => ⟨b, 0, none⟩) 4 P.zs.length (BL.flatMap znO) ∈ J := hJ _ (by simp)
  have tB : ∀ z ∈ BL, znS z ∈ J := fun z hz => hJ _ (by have h := List.mem_map_of_mem (f := znS) hz; simp only [List.mem_append, List.mem_cons, h, true_or, or_true])
  have p52 : RdI J ⟨b2, 0 + 45, none⟩ (slO qB P.zs.length dB) := ⟨fun _ => Rd.getI a2 (pl_tl hcm _ _ 0)⟩
  have p62 : RdI J ⟨b2, 0 + 46, none⟩ (.int .i64 P.de) := ⟨fun _ => Rd.getI a2 (pl_tl hcm _ _ 1)⟩
  have p72 : RdI J ⟨b2, 0 + 47, none⟩ (.int .i64 P.ra) := ⟨fun _ => Rd.getI a2 (pl_tl hcm _ _ 2)⟩
  have p82 : RdI J ⟨b2, 0 + 48, none⟩ (.int .i64 P.mo) := ⟨fun _ => Rd.getI a2 (pl_tl hcm _ _ 3)⟩
  have p92 : RdI J ⟨b2, 0 + 49, none⟩ (.int .i64 P.sz) := ⟨fun _ => Rd.getI a2 (pl_tl hcm _ _ 4)⟩
  clear hJ
  refine CW.cutG (γ := Nat × Nat) (fun _ => True) (fun g => [(2, .pointer (some ⟨b1, 0, none⟩)), (3, .pointer (some ⟨b2, 0, none⟩)), (4, .bool false), (5, .pointer (some ⟨g.1, 0, none⟩)), (6, .pointer (some ⟨g.2, 0, none⟩))]) (fun _ => J) (fun g => [cel g.1 (P.cf.cells (slO oA P.cf.L.length cA)) 40, cel g.2 (P.cf.cells (slO oB P.cf.L.length cB)) 40]) ?_ ?_
  ·
    refine CW.regionD (.cons 0 (.cons 1 (.cons 2 (.cons 3 (.fork [4, 5] (fun k => (bif Nat.beq k 4 then (Sq.of [5, 6, 7]) else (Sq.of [4, 6, 7])))))))) [4, 5, 6, 7] [6, 7] [0, 1, 2, 3] mixed (by kernel_rfl) ?_
    refine RL.fieldAddr fa_43_0 rfl rfl rfl rfl (RL.loadSTq Tryz.isAgg40 Tryz.sizeOf40 rfl rfl rfl rfl ?_)
    refine RL.fieldAddr fa_43_0 rfl rfl rfl rfl (RL.loadSTq Tryz.isAgg40 Tryz.sizeOf40 rfl rfl rfl rfl ?_)
    refine RL.fork ⟨?_, ?_, trivial⟩
    ·
      refine RL.alloc Tryz.zeroValue40 rfl rfl rfl rfl rfl ?_
      intro b3
      refine RL.alloc Tryz.zeroValue40 rfl rfl rfl rfl rfl ?_
      intro b4
      refine RL.storeW Tryz.sizeOf40 rfl rfl rfl rfl rfl rfl rfl (cf_ones _ rfl) (by repeat (first | exact Upd.here | apply Upd.there)) (h45 _) rfl ?_
      refine RL.storeW Tryz.sizeOf40 rfl rfl rfl rfl rfl rfl rfl (cf_ones _ rfl) (by repeat (first | exact Upd.here | apply Upd.there)) (h45 _) rfl ?_
      refine RL.nil ?_
      exact NQ.midG (b3, b4) trivial (.cons rfl (.cons rfl (.cons rfl (.cons rfl (.cons rfl .nil))))) (fun w h => h.rea (fun _ h => h) (by repeat (first | exact Rea.nil | (apply Rea.cons; (solve | (repeat (first | exact Del.here | apply Del.there)))))))
    ·
      refine RL.alloc Tryz.zeroValue40 rfl rfl rfl rfl rfl ?_
      intro b4
      refine RL.alloc Tryz.zeroValue40 rfl rfl rfl rfl rfl ?_
      intro b3
      refine RL.storeW Tryz.sizeOf40 rfl rfl rfl rfl rfl rfl rfl (cf_ones _ rfl) (by repeat (first | exact Upd.here | apply Upd.there)) (h45 _) rfl ?_
      refine RL.storeW Tryz.sizeOf40 rfl rfl rfl rfl rfl rfl rfl (cf_ones _ rfl) (by repeat (first | exact Upd.here | apply Upd.there)) (h45 _) rfl ?_
      refine RL.nil ?_
      exact NQ.midG (b3, b4) trivial (.cons rfl (.cons rfl (.cons rfl (.cons rfl (.cons rfl .nil))))) (fun w h => h.rea (fun _ h => h) (by repeat (first | exact Rea.nil | (apply Rea.cons; (solve | (repeat (first | exact Del.here | apply Del.there)))))))
  rintro ⟨x, y⟩ -
  dsimp only
  refine CW.freezeAll rfl ?_
  refine CW.genI (fun J2 hJ => ?_)
  have hJ2 : ∀ z ∈ J, z ∈ J2 := fun z hz => hJ z (by simp [hz])
  have nx : cel x (P.cf.cells (slO oA P.cf.L.length cA)) 40 ∈ J2 := hJ _ (by simp)
  replace sA := hJ2 _ sA
  replace zA := hJ2 _ zA
  replace tA := fun z hz => hJ2 _ (tA z hz)
  have p5x := RdI.up hJ2 p51
  have p6x := RdI.up hJ2 p61
  have p7x := RdI.up hJ2 p71
  have p8x := RdI.up hJ2 p81
  have p9x := RdI.up hJ2 p91
  have f0x : RdI J2 ⟨x, 0 + 0, none⟩ (slO oA P.cf.L.length cA) := ⟨fun _ => Rd.celI nx rfl⟩
  have fvx : RdsN J2 ⟨x, 0 + 1, none⟩ 3 [.int .i64 P.cf.g0, .int .i64 P.cf.g1, .int .i64 P.cf.g2] := RdsN.told nx (fun j u hj => by
    match j, hj with
    | 0, hj => exact hj
    | 1, hj => exact hj
    | 2, hj => exact hj
    | j + 3, hj => simp at hj) rfl
  have fdx : RdI J2 ⟨x, 0 + 4, none⟩ (.int .i64 P.cf.dr) := ⟨fun _ => Rd.celI nx rfl⟩
  have fsx : RdsN J2 ⟨x, 0 + 5, none⟩ 4 P.cf.sc.cells := RdsN.told nx (fun j u hj => by
    match j, hj with
    | 0, hj => exact hj
    | 1, hj => exact hj
    | 2, hj => exact hj
    | 3, hj => exact hj
    | j + 4, hj => simp [Sch.cells] at hj) rfl
  have fkx : RdsN J2 ⟨x, 0 + 9, none⟩ 32 (bytes P.cf.cm) := RdsN.told nx (fun j u hj => by
    rw [show 0 + 9 + j = j + 1 + 1 + 1 + 1 + 1 + 1 + 1 + 1 + 1 by omega, Cf.cells]
    simp only [List.getElem?_cons_succ]
    rw [List.getElem?_append_left (List.getElem?_eq_some_iff.1 hj).1]; exact hj) (by rw [List.length_map, hcm])
  have f1x : RdI J2 ⟨x, 0 + 41, none⟩ (.int .i64 P.cf.mo) := ⟨fun _ => Rd.getI nx (cf_t hcm _ 0)⟩
  have f2x : RdI J2 ⟨x, 0 + 42, none⟩ (.int .i64 P.cf.ti) := ⟨fun _ => Rd.getI nx (cf_t hcm _ 1)⟩
  have f3x : RdI J2 ⟨x, 0 + 43, none⟩ (.int .i64 P.cf.gr) := ⟨fun _ => Rd.getI nx (cf_t hcm _ 2)⟩
  have f4x : RdI J2 ⟨x, 0 + 44, none⟩ (.int .u64 P.cf.sd) := ⟨fun _ => Rd.getI nx (cf_t hcm _ 3)⟩
  have ny : cel y (P.cf.cells (slO oB P.cf.L.length cB)) 40 ∈ J2 := hJ _ (by simp)
  replace sB := hJ2 _ sB
  replace zB := hJ2 _ zB
  replace tB := fun z hz => hJ2 _ (tB z hz)
  have p5y := RdI.up hJ2 p52
  have p6y := RdI.up hJ2 p62
  have p7y := RdI.up hJ2 p72
  have p8y := RdI.up hJ2 p82
  have p9y := RdI.up hJ2 p92
  have f0y : RdI J2 ⟨y, 0 + 0, none⟩ (slO oB P.cf.L.length cB) := ⟨fun _ => Rd.celI ny rfl⟩
  have fvy : RdsN J2 ⟨y, 0 + 1, none⟩ 3 [.int .i64 P.cf.g0, .int .i64 P.cf.g1, .int .i64 P.cf.g2] := RdsN.told ny (fun j u hj => by
    match j, hj with
    | 0, hj => exact hj
    | 1, hj => exact hj
    | 2, hj => exact hj
    | j + 3, hj => simp at hj) rfl
  have fdy : RdI J2 ⟨y, 0 + 4, none⟩ (.int .i64 P.cf.dr) := ⟨fun _ => Rd.celI ny rfl⟩
  have fsy : RdsN J2 ⟨y, 0 + 5, none⟩ 4 P.cf.sc.cells := RdsN.told ny (fun j u hj => by
    match j, hj with
    | 0, hj => exact hj
    | 1, hj => exact hj
    | 2, hj => exact hj
    | 3, hj => exact hj
    | j + 4, hj => simp [Sch.cells] at hj) rfl
  have fky : RdsN J2 ⟨y, 0 + 9, none⟩ 32 (bytes P.cf.cm) := RdsN.told ny (fun j u hj => by
    rw [show 0 + 9 + j = j + 1 + 1 + 1 + 1 + 1 + 1 + 1 + 1 + 1 by omega, Cf.cells]
    simp only [List.getElem?_cons_succ]
    rw [List.getElem?_append_left (List.getElem?_eq_some_iff.1 hj).1]; exact hj) (by rw [List.length_map, hcm])
  have f1y : RdI J2 ⟨y, 0 + 41, none⟩ (.int .i64 P.cf.mo) := ⟨fun _ => Rd.getI ny (cf_t hcm _ 0)⟩
  have f2y : RdI J2 ⟨y, 0 + 42, none⟩ (.int .i64 P.cf.ti) := ⟨fun _ => Rd.getI ny (cf_t hcm _ 1)⟩
  have f3y : RdI J2 ⟨y, 0 + 43, none⟩ (.int .i64 P.cf.gr) := ⟨fun _ => Rd.getI ny (cf_t hcm _ 2)⟩
  have f4y : RdI J2 ⟨y, 0 + 44, none⟩ (.int .u64 P.cf.sd) := ⟨fun _ => Rd.getI ny (cf_t hcm _ 3)⟩
  clear hJ hJ2 a1 a2 c1 c2 p51 p61 p71 p81 p91 p52 p62 p72 p82 p92
  refine CW.seq (CW.seq (CW.rg (RL.fieldAddr fa_40_0 rfl rfl rfl rfl (RL.loadq Tryz.isAgg37 rfl rfl rfl rfl ?_))))
  refine RL.lenS Tryz.runUnderlying37 rfl rfl rfl rfl (RL.fieldAddr fa_40_0 rfl rfl rfl rfl (RL.loadq Tryz.isAgg37 rfl rfl rfl rfl ?_))
  refine RL.lenS Tryz.runUnderlying37 rfl rfl rfl rfl (RL.p rfl (RL.p rfl ?_))
  apply RL.orB (d := 23) (dp := 31) (l' := (Sq.of [16, 17, 18, 19, 20, 21, 22, 23, 24, 25, 26, 27, 28, 29, 30, 31, 32, 33, 34, 35, 36, 37, 38, 39, 40, 41, 42, 43])) rfl (sK [2, 3, 4, 5, 6] rfl)
  ·
    intro hb8 K8
    refine RL.fieldAddr fa_43_1 rfl rfl rfl rfl (RL.loadq Tryz.isAgg41 rfl rfl rfl rfl ?_)
    refine RL.lenS Tryz.runUnderlying41 rfl rfl rfl rfl (RL.fieldAddr fa_43_1 rfl rfl rfl rfl (RL.loadq Tryz.isAgg41 rfl rfl rfl rfl ?_))
    refine RL.lenS Tryz.runUnderlying41 rfl rfl rfl rfl (RL.p rfl (RL.p rfl ?_))
    exact K8 _ (.cons rfl (sK [2, 3, 4, 5, 6] rfl))
  ·
    intro hb8 K8
    refine RL.p rfl (RL.p rfl (RL.p rfl (RL.p rfl (RL.p rfl (RL.p rfl (RL.p rfl (RL.p rfl ?_)))))))
    exact K8 _ (.cons rfl (sK [2, 3, 4, 5, 6] rfl))
  refine RL.p rfl ?_
  apply RL.orB (d := 32) (dp := 38) (l' := (Sq.of [23, 24, 25, 26, 27, 28, 29, 30, 31, 32, 33, 34, 35, 36, 37, 38, 39, 40, 41, 42, 43])) rfl (sK [2, 3, 4, 5, 6] rfl)
  ·
    intro hb17 K17
    refine RL.fieldAddr fa_43_2 rfl rfl rfl rfl (RL.loadq Tryz.isAgg3 rfl rfl rfl rfl ?_)
    refine RL.fieldAddr fa_43_2 rfl rfl rfl rfl (RL.loadq Tryz.isAgg3 rfl rfl rfl rfl ?_)
    refine RL.p rfl (RL.p rfl ?_)
    exact K17 _ (.cons rfl (sK [2, 3, 4, 5, 6] rfl))
  ·
    intro hb17 K17
    refine RL.p rfl (RL.p rfl (RL.p rfl (RL.p rfl (RL.p rfl (RL.p rfl ?_)))))
    exact K17 _ (.cons rfl (sK [2, 3, 4, 5, 6] rfl))
  refine RL.p rfl ?_
  apply RL.orB (d := 39) (dp := 45) (l' := (Sq.of [30, 31, 32, 33, 34, 35, 36, 37, 38, 39, 40, 41, 42, 43])) rfl (sK [2, 3, 4, 5, 6] rfl)
  ·
    intro hb24 K24
    refine RL.fieldAddr fa_43_3 rfl rfl rfl rfl (RL.loadq Tryz.isAgg3 rfl rfl rfl rfl ?_)
    refine RL.fieldAddr fa_43_3 rfl rfl rfl rfl (RL.loadq Tryz.isAgg3 rfl rfl rfl rfl ?_)
    refine RL.p rfl (RL.p rfl ?_)
    exact K24 _ (.cons rfl (sK [2, 3, 4, 5, 6] rfl))
  ·
    intro hb24 K24
    refine RL.p rfl (RL.p rfl (RL.p rfl (RL.p rfl (RL.p rfl (RL.p rfl ?_)))))
    exact K24 _ (.cons rfl (sK [2, 3, 4, 5, 6] rfl))
  refine RL.p rfl ?_
  apply RL.orB (d := 46) (dp := 52) (l' := (Sq.of [37, 38, 39, 40, 41, 42, 43])) rfl (sK [2, 3, 4, 5, 6] rfl)
  ·
    intro hb31 K31
    refine RL.fieldAddr fa_43_4 rfl rfl rfl rfl (RL.loadq Tryz.isAgg3 rfl rfl rfl rfl ?_)
    refine RL.fieldAddr fa_43_4 rfl rfl rfl rfl (RL.loadq Tryz.isAgg3 rfl rfl rfl rfl ?_)
    refine RL.p rfl (RL.p rfl ?_)
    exact K31 _ (.cons rfl (sK [2, 3, 4, 5, 6] rfl))
  ·
    intro hb31 K31
    refine RL.p rfl (RL.p rfl (RL.p rfl (RL.p rfl (RL.p rfl (RL.p rfl ?_)))))
    exact K31 _ (.cons rfl (sK [2, 3, 4, 5, 6] rfl))
  refine RL.p rfl ?_
  apply RL.orB (d := 53) (dp := 59) (l' := (Sq.of [])) rfl (sK [2, 3, 4, 5, 6] rfl)
  ·
    intro hb38 K38
    refine RL.fieldAddr fa_43_5 rfl rfl rfl rfl (RL.loadq Tryz.isAgg3 rfl rfl rfl rfl ?_)
    refine RL.fieldAddr fa_43_5 rfl rfl rfl rfl (RL.loadq Tryz.isAgg3 rfl rfl rfl rfl ?_)
    refine RL.p rfl (RL.p rfl ?_)
    exact K38 _ (.cons rfl (sK [2, 3, 4, 5, 6] rfl))
  ·
    intro hb38 K38
    refine RL.p rfl (RL.p rfl (RL.p rfl (RL.p rfl (RL.p rfl (RL.p rfl ?_)))))
    exact K38 _ (.cons rfl (sK [2, 3, 4, 5, 6] rfl))
  refine RL.nil (NQ.seq (CW.condF rfl ((by simp)) ?_))
  refine CW.skip (NQ.seq (CW.seq (CW.seq (CW.rg (RL.fieldAddr fa_40_1 rfl rfl rfl rfl (RL.loadSq Tryz.isAgg25 Tryz.sizeOf25 rfl rfl rfl rfl ?_))))))
  refine RL.fieldAddr fa_40_1 rfl rfl rfl rfl (RL.loadSq Tryz.isAgg25 Tryz.sizeOf25 rfl rfl rfl rfl ?_)
  refine RL.cmp rfl rfl rfl rfl rfl (neqs_vec _ _ _ _ _) (RL.p rfl ?_)
  apply RL.orB (d := 65) (dp := 71) (l' := (Sq.of [12, 13, 14, 15, 16, 17, 18, 19, 20, 21, 22, 23, 24, 25, 26, 27, 28, 29, 30, 31, 32, 33, 34, 35, 36, 37, 38, 39, 40, 41, 42, 43, 44, 45, 46, 47, 48, 49, 50, 51, 52, 53])) rfl (sK [2, 3, 4, 5, 6] rfl)
  ·
    intro hb6 K6
    refine RL.fieldAddr fa_40_2 rfl rfl rfl rfl (RL.loadq Tryz.isAgg23 rfl rfl rfl rfl ?_)
    refine RL.fieldAddr fa_40_2 rfl rfl rfl rfl (RL.loadq Tryz.isAgg23 rfl rfl rfl rfl ?_)
    refine RL.p rfl (RL.p rfl ?_)
    exact K6 _ (.cons rfl (sK [2, 3, 4, 5, 6] rfl))
  ·
    intro hb6 K6
    refine RL.p rfl (RL.p rfl (RL.p rfl (RL.p rfl (RL.p rfl (RL.p rfl ?_)))))
    exact K6 _ (.cons rfl (sK [2, 3, 4, 5, 6] rfl))
  refine RL.p rfl ?_
  apply RL.orB (d := 72) (dp := 78) (l' := (Sq.of [19, 20, 21, 22, 23, 24, 25, 26, 27, 28, 29, 30, 31, 32, 33, 34, 35, 36, 37, 38, 39, 40, 41, 42, 43, 44, 45, 46, 47, 48, 49, 50, 51, 52, 53])) rfl (sK [2, 3, 4, 5, 6] rfl)
  ·
    intro hb13 K13
    refine RL.fieldAddr fa_40_3 rfl rfl rfl rfl (RL.loadSq Tryz.isAgg38 Tryz.sizeOf38 rfl rfl rfl rfl ?_)
    refine RL.fieldAddr fa_40_3 rfl rfl rfl rfl (RL.loadSq Tryz.isAgg38 Tryz.sizeOf38 rfl rfl rfl rfl ?_)
    refine RL.cmp rfl rfl rfl rfl rfl (neqs_slot _ _ _) (RL.p rfl ?_)
    exact K13 _ (.cons rfl (sK [2, 3, 4, 5, 6] rfl))
  ·
    intro hb13 K13
    refine RL.p rfl (RL.p rfl (RL.p rfl (RL.p rfl (RL.p rfl (RL.p rfl ?_)))))
    exact K13 _ (.cons rfl (sK [2, 3, 4, 5, 6] rfl))
  refine RL.p rfl ?_
  apply RL.orB (d := 79) (dp := 85) (l' := (Sq.of [26, 27, 28, 29, 30, 31, 32, 33, 34, 35, 36, 37, 38, 39, 40, 41, 42, 43, 44, 45, 46, 47, 48, 49, 50, 51, 52, 53])) rfl (sK [2, 3, 4, 5, 6] rfl)
  ·
    intro hb20 K20
    refine RL.fieldAddr fa_40_4 rfl rfl rfl rfl (RL.loadSq Tryz.isAgg29 Tryz.sizeOf29 rfl rfl rfl rfl ?_)
    refine RL.fieldAddr fa_40_4 rfl rfl rfl rfl (RL.loadSq Tryz.isAgg29 Tryz.sizeOf29 rfl rfl rfl rfl ?_)
    refine RL.cmp rfl rfl rfl rfl rfl (neqs_key _ hcm _ _) (RL.p rfl ?_)
    exact K20 _ (.cons rfl (sK [2, 3, 4, 5, 6] rfl))
  ·
    intro hb20 K20
    refine RL.p rfl (RL.p rfl (RL.p rfl (RL.p rfl (RL.p rfl (RL.p rfl ?_)))))
    exact K20 _ (.cons rfl (sK [2, 3, 4, 5, 6] rfl))
  refine RL.p rfl ?_
  apply RL.orB (d := 86) (dp := 92) (l' := (Sq.of [33, 34, 35, 36, 37, 38, 39, 40, 41, 42, 43, 44, 45, 46, 47, 48, 49, 50, 51, 52, 53])) rfl (sK [2, 3, 4, 5, 6] rfl)
  ·
    intro hb27 K27
    refine RL.fieldAddr fa_40_5 rfl rfl rfl rfl (RL.loadq Tryz.isAgg3 rfl rfl rfl rfl ?_)
    refine RL.fieldAddr fa_40_5 rfl rfl rfl rfl (RL.loadq Tryz.isAgg3 rfl rfl rfl rfl ?_)
    refine RL.p rfl (RL.p rfl ?_)
    exact K27 _ (.cons rfl (sK [2, 3, 4, 5, 6] rfl))
  ·
    intro hb27 K27
    refine RL.p rfl (RL.p rfl (RL.p rfl (RL.p rfl (RL.p rfl (RL.p rfl ?_)))))
    exact K27 _ (.cons rfl (sK [2, 3, 4, 5, 6] rfl))
  refine RL.p rfl ?_
  apply RL.orB (d := 93) (dp := 99) (l' := (Sq.of [40, 41, 42, 43, 44, 45, 46, 47, 48, 49, 50, 51, 52, 53])) rfl (sK [2, 3, 4, 5, 6] rfl)
  ·
    intro hb34 K34
    refine RL.fieldAddr fa_40_6 rfl rfl rfl rfl (RL.loadq Tryz.isAgg3 rfl rfl rfl rfl ?_)
    refine RL.fieldAddr fa_40_6 rfl rfl rfl rfl (RL.loadq Tryz.isAgg3 rfl rfl rfl rfl ?_)
    refine RL.p rfl (RL.p rfl ?_)
    exact K34 _ (.cons rfl (sK [2, 3, 4, 5, 6] rfl))
  ·
    intro hb34 K34
    refine RL.p rfl (RL.p rfl (RL.p rfl (RL.p rfl (RL.p rfl (RL.p rfl ?_)))))
    exact K34 _ (.cons rfl (sK [2, 3, 4, 5, 6] rfl))
  refine RL.p rfl ?_
  apply RL.orB (d := 100) (dp := 106) (l' := (Sq.of [47, 48, 49, 50, 51, 52, 53])) rfl (sK [2, 3, 4, 5, 6] rfl)
  ·
    intro hb41 K41
    refine RL.fieldAddr fa_40_7 rfl rfl rfl rfl (RL.loadq Tryz.isAgg3 rfl rfl rfl rfl ?_)
    refine RL.fieldAddr fa_40_7 rfl rfl rfl rfl (RL.loadq Tryz.isAgg3 rfl rfl rfl rfl ?_)
    refine RL.p rfl (RL.p rfl ?_)
    exact K41 _ (.cons rfl (sK [2, 3, 4, 5, 6] rfl))
  ·
    intro hb41 K41
    refine RL.p rfl (RL.p rfl (RL.p rfl (RL.p rfl (RL.p rfl (RL.p rfl ?_)))))
    exact K41 _ (.cons rfl (sK [2, 3, 4, 5, 6] rfl))
  refine RL.p rfl ?_
  apply RL.orB (d := 107) (dp := 113) (l' := (Sq.of [])) rfl (sK [2, 3, 4, 5, 6] rfl)
  ·
    intro hb48 K48
    refine RL.fieldAddr fa_40_8 rfl rfl rfl rfl (RL.loadq Tryz.isAgg30 rfl rfl rfl rfl ?_)
    refine RL.fieldAddr fa_40_8 rfl rfl rfl rfl (RL.loadq Tryz.isAgg30 rfl rfl rfl rfl ?_)
    refine RL.p rfl (RL.p rfl ?_)
    exact K48 _ (.cons rfl (sK [2, 3, 4, 5, 6] rfl))
  ·
    intro hb48 K48
    refine RL.p rfl (RL.p rfl (RL.p rfl (RL.p rfl (RL.p rfl (RL.p rfl ?_)))))
    exact K48 _ (.cons rfl (sK [2, 3, 4, 5, 6] rfl))
  refine RL.nil (NQ.seq (CW.condF rfl ((by simp)) ?_))
  refine CW.skip (NQ.seq (CW.seq (CW.seq (CW.rg (RL.p rfl (RL.nil (NQ.seq (CW.block (CW.loop (γ := Nat) (fun i => i ≤ P.cf.L.length) (fun i => [(2, .pointer (some ⟨b1, 0, none⟩)), (3, .pointer (some ⟨b2, 0, none⟩)), (5, .pointer (some ⟨x, 0, none⟩)), (6, .pointer (some ⟨y, 0, none⟩)), (7, .int .i64 (i : Int))]) (fun _ => J2) (fun _ => []) (fun i => P.cf.L.length - i) 0 (Nat.zero_le _) (.cons rfl (.cons rfl (.cons rfl (.cons rfl (.cons rfl .nil))))) (fun w h => h.rea (fun _ h => h) (by repeat (first | exact Rea.nil | (apply Rea.cons; (solve | (repeat (first | exact Del.here | apply Del.there))))))) ?_)))))))))
  intro i hi
  refine CW.fact (p := (oA = none → P.cf.L.length = 0) ∧ (oB = none → P.cf.L.length = 0)) (fun w hC => ⟨fun e => sls_nil (hC.s.i _ sA) (by rw [e]; rfl), fun e => sls_nil (hC.s.i _ sB) (by rw [e]; rfl)⟩) (fun ⟨hp2, hp3⟩ => ?_)
  refine CW.seq (CW.seq (CW.rg (RL.p rfl (RL.fieldAddr fa_40_0 rfl rfl rfl rfl (RL.loadq Tryz.isAgg37 rfl rfl rfl rfl ?_)))))
  refine RL.lenS Tryz.runUnderlying37 rfl rfl rfl rfl (RL.p rfl (RL.nil (NQ.seq ?_)))
  refine CW.cond rfl (fun hlt => ?_) (fun hlt => ?_)
  ·
    have hlt : i < P.cf.L.length := by simp at hlt; omega
    cases oA with
    | none => exact absurd (hp2 rfl) (by omega)
    | some ba =>
    cases oB with
    | none => exact absurd (hp3 rfl) (by omega)
    | some bb =>
    have hx := List.getElem?_eq_getElem hlt
    generalize P.cf.L[i] = s at hx
    have hsr := hrt s (List.mem_of_getElem? hx)
    have hsl := hLl s (List.mem_of_getElem? hx)
    have r2 : RdsN J2 ⟨ba, 0 + i * 48, none⟩ 48 s.cells := flat_rdsN (f := Sr.cells) sA hx hLl
    have r3 : RdsN J2 ⟨bb, 0 + i * 48, none⟩ 48 s.cells := flat_rdsN (f := Sr.cells) sB hx hLl
    refine CW.skip (NQ.seq (CW.seq (CW.block (CW.seq (CW.regionD (Sq.of [0, 1, 2, 3, 4, 5, 6, 7, 8, 9, 10]) [] [] [0, 1, 2, 3, 4, 5, 6, 7, 8, 9, 10] mixed (by kernel_rfl) ?_)))))
    refine RL.fieldAddr fa_40_0 rfl rfl rfl rfl (RL.loadTq Tryz.isAgg37 rfl rfl rfl rfl ?_)
    refine RL.p rfl (RL.idxAt (j := i) Tryz.runUnderlying37 Tryz.sizeOf108 rfl rfl rfl rfl rfl rfl (hlt) (RL.loadSTq Tryz.isAgg108 Tryz.sizeOf108 rfl rfl rfl rfl ?_))
    refine RL.fieldAddr fa_40_0 rfl rfl rfl rfl (RL.loadTq Tryz.isAgg37 rfl rfl rfl rfl ?_)
    refine RL.p rfl (RL.idxAt (j := i) Tryz.runUnderlying37 Tryz.sizeOf108 rfl rfl rfl rfl rfl rfl (hlt) (RL.loadSTq Tryz.isAgg108 Tryz.sizeOf108 rfl rfl rfl rfl ?_))
    refine RL.cmp rfl rfl rfl rfl rfl (neqs_src s hsr _ _) (RL.nil (NQ.seq (CW.ok [2, 3, 5, 6, 7, 131] rfl (CW.condF rfl (rfl) (CW.skip (NQ.block (NQ.seq (CW.rg (RL.p rfl (RL.bx rfl (wrapV_i64 (by omega) (by omega)) ?_))))))))))
    refine RL.p rfl (RL.nil ?_)
    refine NQ.round (g := i) (i + 1) hlt (by show P.cf.L.length - (i + 1) < P.cf.L.length - i; omega) (.cons rfl (.cons rfl (.cons rfl (.cons rfl (.cons rfl .nil))))) (fun w h => h.rea (fun _ h => h) (by repeat (first | exact Rea.nil | (apply Rea.cons; (solve | (repeat (first | exact Del.here | apply Del.there)))))))
  ·
    refine CW.exit (XQ.seq (XQ.seq (XQ.hit (NQ.seq (CW.ok [2, 3] rfl (CW.seq (CW.seq (CW.rg (RL.p rfl (RL.nil (NQ.seq (CW.block ?_))))))))))))
    clear hlt hi hp2 hp3
    refine CW.loop (γ := Nat × List It) (fun g => g.1 ≤ P.zs.length ∧ ∀ z ∈ J2, z ∈ g.2) (fun g => [(2, .pointer (some ⟨b1, 0, none⟩)), (3, .pointer (some ⟨b2, 0, none⟩)), (8, .int .i64 (g.1 : Int))]) (fun g => g.2) (fun _ => []) (fun g => P.zs.length - g.1) (0, J2) ⟨Nat.zero_le _, fun _ h => h⟩ (.cons rfl (.cons rfl (.cons rfl .nil))) (fun w h => h.rea (fun _ h => h) (by repeat (first | exact Rea.nil | (apply Rea.cons; (solve | (repeat (first | exact Del.here | apply Del.there))))))) ?_
    rintro ⟨i, K⟩ ⟨hi, hK⟩
    dsimp only at hi hK ⊢
    have zA := hK _ zA
    have zB := hK _ zB
    have tA := fun z hz => hK _ (tA z hz)
    have tB := fun z hz => hK _ (tB z hz)
    have p5x := RdI.up hK p5x
    have p5y := RdI.up hK p5y
    refine CW.fact (p := (qA = none → P.zs.length = 0) ∧ (qB = none → P.zs.length = 0)) (fun w hC => ⟨fun e => sls_nil (hC.s.i _ zA) (by rw [e]; rfl), fun e => sls_nil (hC.s.i _ zB) (by rw [e]; rfl)⟩) (fun ⟨hp2, hp3⟩ => ?_)
    refine CW.seq (CW.seq (CW.rg (RL.p rfl (RL.fieldAddr fa_43_1 rfl rfl rfl rfl (RL.loadq Tryz.isAgg41 rfl rfl rfl rfl ?_)))))
    refine RL.lenS Tryz.runUnderlying41 rfl rfl rfl rfl (RL.p rfl (RL.nil (NQ.seq ?_)))
    refine CW.cond rfl (fun hlt => ?_) (fun hlt => ?_)
    ·
      have hlt : i < P.zs.length := by simp at hlt; omega
      cases qA with
      | none => exact absurd (hp2 rfl) (by omega)
      | some ba =>
      cases qB with
      | none => exact absurd (hp3 rfl) (by omega)
      | some bb =>
      obtain ⟨⟨z, ua, va⟩, hxa⟩ : ∃ z, AL[i]? = some z := ⟨_, List.getElem?_eq_getElem (by omega)⟩
      obtain ⟨⟨z', ub, vb⟩, hxb⟩ : ∃ z, BL[i]? = some z := ⟨_, List.getElem?_eq_getElem (by omega)⟩
      have hz1 : P.zs[i]? = some z := by rw [← hA, List.getElem?_map, hxa]; rfl
      have hz2 : P.zs[i]? = some z' := by rw [← hB, List.getElem?_map, hxb]; rfl
      have hzl := hnp z (List.mem_of_getElem? hz1)
      obtain rfl : z = z' := by rw [hz1] at hz2; exact Option.some.inj hz2
      have ma : sls (ua.map fun b => ⟨b, 0, none⟩) 2 z.L.length (z.L.flatMap Pt.cells) ∈ K := tA _ (List.mem_of_getElem? hxa)
      have mb : sls (ub.map fun b => ⟨b, 0, none⟩) 2 z.L.length (z.L.flatMap Pt.cells) ∈ K := tB _ (List.mem_of_getElem? hxb)
      have e0 : RdsN K ⟨ba, 0 + i * 4, none⟩ 4 (znO (z, ua, va)) := flat_rdsN (f := znO) zA hxa (fun z _ => znO_len z)
      have e1 : RdsN K ⟨bb, 0 + i * 4, none⟩ 4 (znO (z, ub, vb)) := flat_rdsN (f := znO) zB hxb (fun z _ => znO_len z)
      refine CW.skip (NQ.seq (CW.seq (CW.block (CW.seq ?_))))
      refine CW.cutG (γ := Nat × Nat) (fun _ => True) (fun g => [(2, .pointer (some ⟨b1, 0, none⟩)), (3, .pointer (some ⟨b2, 0, none⟩)), (8, .int .i64 (i : Int)), (9, .pointer (some ⟨g.1, 0, none⟩)), (10, .pointer (some ⟨g.2, 0, none⟩))]) (fun _ => K) (fun g => [cel g.1 (znO (z, ua, va)) 77, cel g.2 (znO (z, ub, vb)) 77]) ?_ ?_
      ·
        refine CW.regionD (.cons 0 (.cons 1 (.cons 2 (.cons 3 (.cons 4 (.cons 5 (.cons 6 (.cons 7 (.cons 8 (.cons 9 (.fork [10, 11] (fun k => (bif Nat.beq k 10 then (Sq.of [11, 12, 13]) else (Sq.of [10, 12, 13])))))))))))))) [10, 11, 12, 13] [12, 13] [0, 1, 2, 3, 4, 5, 6, 7, 8, 9] mixed (by kernel_rfl) ?_
        refine RL.fieldAddr fa_43_1 rfl rfl rfl rfl (RL.loadTq Tryz.isAgg41 rfl rfl rfl rfl ?_)
        refine RL.p rfl (RL.idxAt (j := i) Tryz.runUnderlying41 Tryz.sizeOf77 rfl rfl rfl rfl rfl rfl (hlt) (RL.loadSTq Tryz.isAgg77 Tryz.sizeOf77 rfl rfl rfl rfl ?_))
        refine RL.fieldAddr fa_43_1 rfl rfl rfl rfl (RL.loadTq Tryz.isAgg41 rfl rfl rfl rfl ?_)
        refine RL.p rfl (RL.idxAt (j := i) Tryz.runUnderlying41 Tryz.sizeOf77 rfl rfl rfl rfl rfl rfl (hlt) (RL.loadSTq Tryz.isAgg77 Tryz.sizeOf77 rfl rfl rfl rfl ?_))
        refine RL.fork ⟨?_, ?_, trivial⟩
        ·
          refine RL.alloc Tryz.zeroValue77 rfl rfl rfl rfl rfl ?_
          intro b3
          refine RL.alloc Tryz.zeroValue77 rfl rfl rfl rfl rfl ?_
          intro b4
          refine RL.store (vs := [_, _, _, _]) Tryz.sizeOf77 rfl rfl rfl rfl rfl rfl rfl rfl rfl (by repeat (first | exact Upd.here | apply Upd.there)) ?_
          refine RL.store (vs := [_, _, _, _]) Tryz.sizeOf77 rfl rfl rfl rfl rfl rfl rfl rfl rfl (by repeat (first | exact Upd.here | apply Upd.there)) ?_
          refine RL.nil ?_
          exact NQ.midG (b3, b4) trivial (.cons rfl (.cons rfl (.cons rfl (.cons rfl (.cons rfl .nil))))) (fun w h => h.rea (fun _ h => h) (by repeat (first | exact Rea.nil | (apply Rea.cons; (solve | (repeat (first | exact Del.here | apply Del.there)))))))
        ·
          refine RL.alloc Tryz.zeroValue77 rfl rfl rfl rfl rfl ?_
          intro b4
          refine RL.alloc Tryz.zeroValue77 rfl rfl rfl rfl rfl ?_
          intro b3
          refine RL.store (vs := [_, _, _, _]) Tryz.sizeOf77 rfl rfl rfl rfl rfl rfl rfl rfl rfl (by repeat (first | exact Upd.here | apply Upd.there)) ?_
          refine RL.store (vs := [_, _, _, _]) Tryz.sizeOf77 rfl rfl rfl rfl rfl rfl rfl rfl rfl (by repeat (first | exact Upd.here | apply Upd.there)) ?_
          refine RL.nil ?_
          exact NQ.midG (b3, b4) trivial (.cons rfl (.cons rfl (.cons rfl (.cons rfl (.cons rfl .nil))))) (fun w h => h.rea (fun _ h => h) (by repeat (first | exact Rea.nil | (apply Rea.cons; (solve | (repeat (first | exact Del.here | apply Del.there)))))))
      rintro ⟨u, v⟩ -
      dsimp only
      refine CW.freezeAll rfl ?_
      refine CW.genI (fun K2 hJ => ?_)
      have hK2 : ∀ z ∈ K, z ∈ K2 := fun z hz => hJ z (by simp [hz])
      have nu : cel u (znO (z, ua, va)) 77 ∈ K2 := hJ _ (by simp)
      have nv : cel v (znO (z, ub, vb)) 77 ∈ K2 := hJ _ (by simp)
      clear hJ
      have ma := hK2 _ ma
      have mb := hK2 _ mb
      have g0 : RdI K2 ⟨u, 0 + 0, none⟩ (.bool z.keep) := ⟨fun _ => Rd.celI nu rfl⟩
      have g1 : RdI K2 ⟨u, 0 + 1, none⟩ (slO ua z.L.length va) := ⟨fun _ => Rd.celI nu rfl⟩
      have g2 : RdI K2 ⟨u, 0 + 2, none⟩ (.int .i64 z.fl) := ⟨fun _ => Rd.celI nu rfl⟩
      have g3 : RdI K2 ⟨u, 0 + 3, none⟩ (.int .i64 z.rf) := ⟨fun _ => Rd.celI nu rfl⟩
      have h0 : RdI K2 ⟨v, 0 + 0, none⟩ (.bool z.keep) := ⟨fun _ => Rd.celI nv rfl⟩
      have h1 : RdI K2 ⟨v, 0 + 1, none⟩ (slO ub z.L.length vb) := ⟨fun _ => Rd.celI nv rfl⟩
      have h2 : RdI K2 ⟨v, 0 + 2, none⟩ (.int .i64 z.fl) := ⟨fun _ => Rd.celI nv rfl⟩
      have h3 : RdI K2 ⟨v, 0 + 3, none⟩ (.int .i64 z.rf) := ⟨fun _ => Rd.celI nv rfl⟩
      refine CW.seq (CW.seq (CW.rg (RL.fieldAddr fa_77_0 rfl rfl rfl rfl (RL.loadq Tryz.isAgg4 rfl rfl rfl rfl ?_))))
      refine RL.fieldAddr fa_77_0 rfl rfl rfl rfl (RL.loadq Tryz.isAgg4 rfl rfl rfl rfl ?_)
      refine RL.cmp rfl rfl rfl rfl rfl (neq_bool Tryz.runUnderlying4 _ _) (RL.p rfl ?_)
      apply RL.orB (d := 154) (dp := 160) (l' := (Sq.of [12, 13, 14, 15, 16, 17, 18, 19, 20, 21, 22, 23, 24, 25, 26, 27])) rfl (sK [2, 3, 8, 9, 10] rfl)
      ·
        intro hb6 K6
        refine RL.fieldAddr fa_77_2 rfl rfl rfl rfl (RL.loadq Tryz.isAgg23 rfl rfl rfl rfl ?_)
        refine RL.fieldAddr fa_77_2 rfl rfl rfl rfl (RL.loadq Tryz.isAgg23 rfl rfl rfl rfl ?_)
        refine RL.p rfl (RL.p rfl ?_)
        exact K6 _ (.cons rfl (sK [2, 3, 8, 9, 10] rfl))
      ·
        intro hb6 K6
        refine RL.p rfl (RL.p rfl (RL.p rfl (RL.p rfl (RL.p rfl (RL.p rfl ?_)))))
        exact K6 _ (.cons rfl (sK [2, 3, 8, 9, 10] rfl))
      refine RL.p rfl ?_
      apply RL.orB (d := 161) (dp := 167) (l' := (Sq.of [19, 20, 21, 22, 23, 24, 25, 26, 27])) rfl (sK [2, 3, 8, 9, 10] rfl)
      ·
        intro hb13 K13
        refine RL.fieldAddr fa_77_3 rfl rfl rfl rfl (RL.loadq Tryz.isAgg23 rfl rfl rfl rfl ?_)
        refine RL.fieldAddr fa_77_3 rfl rfl rfl rfl (RL.loadq Tryz.isAgg23 rfl rfl rfl rfl ?_)
        refine RL.p rfl (RL.p rfl ?_)
        exact K13 _ (.cons rfl (sK [2, 3, 8, 9, 10] rfl))
      ·
        intro hb13 K13
        refine RL.p rfl (RL.p rfl (RL.p rfl (RL.p rfl (RL.p rfl (RL.p rfl ?_)))))
        exact K13 _ (.cons rfl (sK [2, 3, 8, 9, 10] rfl))
      refine RL.p rfl ?_
      apply RL.orB (d := 168) (dp := 176) (l' := (Sq.of [])) rfl (sK [2, 3, 8, 9, 10] rfl)
      ·
        intro hb20 K20
        refine RL.fieldAddr fa_77_1 rfl rfl rfl rfl (RL.loadq Tryz.isAgg75 rfl rfl rfl rfl ?_)
        refine RL.lenS Tryz.runUnderlying75 rfl rfl rfl rfl (RL.fieldAddr fa_77_1 rfl rfl rfl rfl (RL.loadq Tryz.isAgg75 rfl rfl rfl rfl ?_))
        refine RL.lenS Tryz.runUnderlying75 rfl rfl rfl rfl (RL.p rfl (RL.p rfl ?_))
        exact K20 _ (.cons rfl (sK [2, 3, 8, 9, 10] rfl))
      ·
        intro hb20 K20
        refine RL.p rfl (RL.p rfl (RL.p rfl (RL.p rfl (RL.p rfl (RL.p rfl (RL.p rfl (RL.p rfl ?_)))))))
        exact K20 _ (.cons rfl (sK [2, 3, 8, 9, 10] rfl))
      refine RL.nil (NQ.seq (CW.condF rfl ((by simp)) ?_))
      refine CW.skip (NQ.seq (CW.seq (CW.rg (RL.p rfl (RL.nil (NQ.seq (CW.block (CW.loop (γ := Nat) (fun k => k ≤ z.L.length) (fun k => [(2, .pointer (some ⟨b1, 0, none⟩)), (3, .pointer (some ⟨b2, 0, none⟩)), (8, .int .i64 (i : Int)), (9, .pointer (some ⟨u, 0, none⟩)), (10, .pointer (some ⟨v, 0, none⟩)), (11, .int .i64 (k : Int))]) (fun _ => K2) (fun _ => []) (fun k => z.L.length - k) 0 (Nat.zero_le _) (.cons rfl (.cons rfl (.cons rfl (.cons rfl (.cons rfl (.cons rfl .nil)))))) (fun w h => h.rea (fun _ h => h) (by repeat (first | exact Rea.nil | (apply Rea.cons; (solve | (repeat (first | exact Del.here | apply Del.there))))))) ?_))))))))
      intro k hk
      refine CW.fact (p := (ua = none → z.L.length = 0) ∧ (ub = none → z.L.length = 0)) (fun w hC => ⟨fun e => sls_nil (hC.s.i _ ma) (by rw [e]; rfl), fun e => sls_nil (hC.s.i _ mb) (by rw [e]; rfl)⟩) (fun ⟨hq2, hq3⟩ => ?_)
      refine CW.seq (CW.seq (CW.rg (RL.p rfl (RL.fieldAddr fa_77_1 rfl rfl rfl rfl (RL.loadq Tryz.isAgg75 rfl rfl rfl rfl ?_)))))
      refine RL.lenS Tryz.runUnderlying75 rfl rfl rfl rfl (RL.p rfl (RL.nil (NQ.seq ?_)))
      refine CW.cond rfl (fun hlk => ?_) (fun hlk => ?_)
      ·
        have hlk : k < z.L.length := by simp at hlk; omega
        cases ua with
        | none => exact absurd (hq2 rfl) (by omega)
        | some ca =>
        cases ub with
        | none => exact absurd (hq3 rfl) (by omega)
        | some cb =>
        have hx := List.getElem?_eq_getElem hlk
        generalize z.L[k] = pt at hx
        have r2 : RdsN K2 ⟨ca, 0 + k * 2, none⟩ 2 pt.cells := flat_rdsN (f := Pt.cells) ma hx (fun _ _ => rfl)
        have r3 : RdsN K2 ⟨cb, 0 + k * 2, none⟩ 2 pt.cells := flat_rdsN (f := Pt.cells) mb hx (fun _ _ => rfl)
        refine CW.skip (NQ.seq (CW.seq (CW.block (CW.seq (CW.regionD (Sq.of [0, 1, 2, 3, 4, 5, 6, 7, 8, 9, 10]) [] [] [0, 1, 2, 3, 4, 5, 6, 7, 8, 9, 10] mixed (by kernel_rfl) ?_)))))
        refine RL.fieldAddr fa_77_1 rfl rfl rfl rfl (RL.loadTq Tryz.isAgg75 rfl rfl rfl rfl ?_)
        refine RL.p rfl (RL.idxAt (j := k) Tryz.runUnderlying75 Tryz.sizeOf79 rfl rfl rfl rfl rfl rfl (hlk) (RL.loadSTq Tryz.isAgg79 Tryz.sizeOf79 rfl rfl rfl rfl ?_))
        refine RL.fieldAddr fa_77_1 rfl rfl rfl rfl (RL.loadTq Tryz.isAgg75 rfl rfl rfl rfl ?_)
        refine RL.p rfl (RL.idxAt (j := k) Tryz.runUnderlying75 Tryz.sizeOf79 rfl rfl rfl rfl rfl rfl (hlk) (RL.loadSTq Tryz.isAgg79 Tryz.sizeOf79 rfl rfl rfl rfl ?_))
        refine RL.cmp rfl rfl rfl rfl rfl (fun w => neq_pt (by kernel_rfl) (ii := Tryz.t23) (by kernel_rfl) (by kernel_rfl) Tryz.isAgg23 Tryz.runUnderlying23 (by kernel_rfl) pt pt _ _ w) ?_
        refine RL.nil (NQ.seq (CW.ok [2, 3, 8, 9, 10, 11, 194] rfl (CW.condF rfl ((by simp)) ?_)))
        refine CW.skip (NQ.block (NQ.seq (CW.rg (RL.p rfl (RL.bx rfl (wrapV_i64 (by omega) (by omega)) ?_)))))
        refine RL.p rfl (RL.nil ?_)
        refine NQ.round (g := k) (k + 1) hlk (by show z.L.length - (k + 1) < z.L.length - k; omega) (.cons rfl (.cons rfl (.cons rfl (.cons rfl (.cons rfl (.cons rfl .nil)))))) (fun w h => h.rea (fun _ h => h) (by repeat (first | exact Rea.nil | (apply Rea.cons; (solve | (repeat (first | exact Del.here | apply Del.there)))))))
      ·
        refine CW.exit (XQ.seq (XQ.seq (XQ.hit (NQ.block (NQ.seq (CW.ok [2, 3, 8] rfl (CW.rg (RL.p rfl (RL.bx rfl (wrapV_i64 (by omega) (by omega)) ?_)))))))))
        refine RL.p rfl (RL.nil ?_)
        refine NQ.round (g := (i, K)) (i + 1, K2) ⟨hlt, fun z hz => hK2 _ (hK z hz)⟩ (by show P.zs.length - (i + 1) < P.zs.length - i; omega) (.cons rfl (.cons rfl (.cons rfl .nil))) (fun w h => h.rea (fun _ h => h) (by repeat (first | exact Rea.nil | (apply Rea.cons; (solve | (repeat (first | exact Del.here | apply Del.there)))))))
    ·
      refine CW.exit (XQ.seq (XQ.seq (XQ.hit (NQ.seq (CW.ok [] rfl (CW.seq (CW.rg (RL.p rfl (RL.nil (NQ.seq (CW.ret ?_)))))))))))
      exact RQ.post (res1 rfl rfl) (Split.none _) ⟨rfl, rfl, rfl⟩
end Go.Proofs.YthndhipjfdgdfaaGreatDoor

namespace Go.Proofs.YthndhipjfdgdfaaGreatDoor
open Go.PK
/-! ### A plan with few of each -/
abbrev ZA := Zn × Option Addr × Nat
def znA (z : ZA) : List Value := znC z.1.keep (.slice z.2.1 z.1.L.length z.2.2) z.1.fl z.1.rf
def znB (z : ZA) : It := sls z.2.1 2 z.1.L.length (z.1.L.flatMap Pt.cells)
def Zn.few (z : Zn) : Zn := { z with L := z.L.take 20 }
def Pl.few (P : Pl) : Pl := { P with cf := P.cf.few, zs := (P.zs.take 12).map Zn.few }
theorem pts_len (L : List Pt) : (L.flatMap Pt.cells).length = L.length * 2 := by
  induction L with
  | nil => rfl
  | cons p r ih => rw [List.flatMap_cons, List.length_append, ih, List.length_cons]; show 2 + _ = _; omega
theorem pts_cut {L : List Pt} {i : Nat} (hi : i ≤ L.length) : (L.flatMap Pt.cells).take (i * 2) = (L.take i).flatMap Pt.cells := by
  have hl : ((L.take i).flatMap Pt.cells).length = i * 2 := by rw [pts_len, List.length_take, Nat.min_eq_left hi]
  have he : L.flatMap Pt.cells = (L.take i).flatMap Pt.cells ++ (L.drop i).flatMap Pt.cells := by rw [← List.flatMap_append, List.take_append_drop]
  rw [he]; exact List.take_left' hl
theorem pts_ones (L : List Pt) : ∀ u ∈ L.flatMap Pt.cells, u.oneCell' = true := fun u hu => by
  obtain ⟨s, -, hs⟩ := List.mem_flatMap.1 hu
  exact ones_spec (l := s.cells) rfl u hs
theorem pl_cset {P : Pl} {c : Cf} (h : P.cf.cm.length = 32) (hc : c.cm.length = 32) (sl sl' zl : Value) : spl (plC P sl zl) (0 + 0) (c.cells sl') = plC { P with cf := c } sl' zl := by
  rw [plC, plC]
  exact seg_spl (A := []) (B := P.cf.cells sl) (C := [zl, .int .i64 P.de, .int .i64 P.ra, .int .i64 P.mo, .int .i64 P.sz]) rfl (by rw [cf_len h, cf_len hc])
theorem flat_rdsA {I : List It} {p : Addr} {n sz i : Nat} {α : Type} {f : α → List Value} {R : List α} {x : α} (hm : sls (some p) sz n (R.flatMap f) ∈ I) (hx : R[i]? = some x) (hf : ∀ y ∈ R, (f y).length = sz) : RdsN I (p.add (i * sz)) sz (f x) :=
  ⟨fun H => Rds.part (H := H) (j := i * sz) (vs := f x) (Rds.sls hm) (fun q u hu => by
      have hlt : q < sz := by have := (List.getElem?_eq_some_iff.1 hu).1; rwa [hf x (List.mem_of_getElem? hx)] at this
      rw [get_flat (f := f) (n := sz) hf hx hlt]; exact hu), hf x (List.mem_of_getElem? hx)⟩
theorem few_step {zs : List Zn} {i : Nat} {z : Zn} {YL : List ZO} (hi : i < 12) (hy : YL.map (·.1) = (zs.take i).map Zn.few) (hz : zs[i]? = some z) (ob : Option Nat) (cp : Nat) : (YL ++ [((z.few, ob, cp) : ZO)]).map (·.1) = (zs.take (i + 1)).map Zn.few := by
  rw [List.map_append, hy, List.take_add_one, hz, List.map_append]; rfl
theorem lfw_any (P : Pl) (pa pz : Option Addr) (ca cz n m : Nat) (ZL : List ZA) (hn : P.cf.L.length = n) (hm : P.zs.length = m) (hzl : ZL.map (·.1) = P.zs) (hcm : P.cf.cm.length = 32) (hrt : ∀ s ∈ P.cf.L, s.rt.length = 32) (hca : n ≤ ca) (hl : n ≤ maxLen) (hz : m ≤ maxLen) (hp : ∀ z ∈ ZL, z.1.L.length ≤ maxLen ∧ z.1.L.length ≤ z.2.2) :
    Spc Tryz.prog 6 #[.agg (plC P (.slice pa n ca) (.slice pz m cz)).toArray] (sls pa 48 n (P.cf.L.flatMap Sr.cells) :: sls pz 4 m (ZL.flatMap znA) :: ZL.map znB) [] (PlR 98 73 80 P.few) := by
  subst hn hm
  unfold maxLen at hl hz hp
  have hlz : ZL.length = P.zs.length := by rw [← hzl, List.length_map]
  have hLl : ∀ s ∈ P.cf.L, s.cells.length = 48 := fun s hs => sr_len (hrt s hs)
  have hcl := cf_len hcm (.slice pa P.cf.L.length ca)
  have hpr := fun sl zl => pl_len (P := P) hcm sl zl
  have hpq := fun sl zl => pl_len (P := { P with cf := P.cf.few }) hcm sl zl
  refine Spc.enter Tryz.func6 rfl rfl rfl (fun w0 hw0 => ?_)
  refine CW.seq (CW.region (ef := [0, 1]) (bk := []) (RL.box rfl rfl rfl rfl rfl rfl ?_))
  intro b1
  refine RL.alloc Tryz.zeroValue35 rfl rfl rfl rfl rfl ?_
  intro b2
  refine RL.nil (NQ.seq (CW.seq ?_))
  refine CW.genI (fun J hJ => ?_)
  have m2 : sls pa 48 P.cf.L.length (P.cf.L.flatMap Sr.cells) ∈ J := hJ _ (by simp)
  have m3 : sls pz 4 P.zs.length (ZL.flatMap znA) ∈ J := hJ _ (by simp)
  have m4 : ∀ z ∈ ZL, znB z ∈ J := fun z hz => hJ _ (by have h := List.mem_map_of_mem (f := znB) hz; simp only [List.mem_cons, h, or_true])
  clear hJ
  refine CW.region (ef := [2, 4]) (bk := [2, 4]) (RL.fieldAddr fa_35_0 rfl rfl rfl rfl (RL.loadA Tryz.isAgg32 Tryz.sizeOf32 rfl rfl rfl rfl (Rds.cel (by repeat (first | exact List.Mem.head _ | apply List.Mem.tail)) (pl_cf hcm _ _)) hcl ?_))
  refine RL.call (lfew_any P.cf pa ca _ hcm hLl rfl hca hl) Tryz.call24 rfl rfl rfl rfl rfl (by repeat (first | exact Pick.nil | apply Pick.take | apply Pick.leave)) (.inI m2 .nil) (.inr rfl) ?_
  rintro _ _ _ ⟨ob, cap, rfl, rfl, rfl⟩
  refine RL.fieldAddr fa_35_0 rfl rfl rfl rfl (RL.storeX (vs := P.cf.few.cells (slO ob P.cf.few.L.length cap)) (pl_cset (c := P.cf.few) hcm hcm (.slice pa P.cf.L.length ca) (slO ob P.cf.few.L.length cap) (.slice pz P.zs.length cz)) (fun w => by rw [cf_len (c := P.cf.few) hcm]; exact Tryz.sizeOf32 w) rfl rfl rfl rfl rfl rfl rfl (cf_ones _ rfl) (by repeat (first | exact Upd.here | apply Upd.there)) (by rw [hpr, cf_len (c := P.cf.few) hcm]; exact Nat.le_of_ble_eq_true rfl) ?_)
  refine RL.nil (NQ.seq (CW.seq (CW.region (ef := [0]) (bk := []) (RL.buildOwn [] Tryz.runUnderlying33 Tryz.sizeOf73 Tryz.zeroValue73 rfl rfl (by decide) (by decide) rfl (by decide) rfl rfl rfl rfl rfl rfl ?_))))
  intro oq
  refine RL.p rfl (RL.nil (NQ.seq (CW.ok [1, 2, 3] rfl (CW.seq (CW.seq (CW.rg (RL.p rfl (RL.nil (NQ.seq (CW.block ?_))))))))))
  refine CW.loop (γ := Nat × Option Nat × Nat × List ZO) (fun g => (g.1 ≤ P.zs.length ∧ g.1 ≤ 12) ∧ g.2.2.2.map (·.1) = (P.zs.take g.1).map Zn.few) (fun g => [(1, .pointer (some ⟨b1, 0, none⟩)), (2, .pointer (some ⟨b2, 0, none⟩)), (3, slO g.2.1 g.1 g.2.2.1), (4, .int .i64 (g.1 : Int))]) (fun _ => J)
    (fun g => [own g.2.1 g.2.2.1 73 4 g.1 (g.2.2.2.flatMap znO), allI (g.2.2.2.map (znT 80)), cel b1 (plC { P with cf := P.cf.few } (slO ob P.cf.few.L.length cap) (.slice pz P.zs.length cz)) 35, cel b2 (plC zeroPl (.slice none 0 0) (.slice none 0 0)) 35, own ob cap 98 48 P.cf.few.L.length (P.cf.few.L.flatMap Sr.cells)]) (fun g => P.zs.length - g.1) (0, some oq, 0, []) ⟨⟨Nat.zero_le _, Nat.zero_le _⟩, rfl⟩ (.cons rfl (.cons rfl (.cons rfl (.cons rfl .nil)))) (fun w h => (Cls.poolNew h).rea (fun _ h => h) (by repeat (first | exact Rea.nil | (apply Rea.cons; (solve | (repeat (first | exact Del.here | apply Del.there))))))) ?_
  rintro ⟨i, oy, cy, YL⟩ ⟨⟨hi, hi12⟩, hy⟩
  dsimp only at hi hi12 hy ⊢
  refine CW.fact (p := pz = none → P.zs.length = 0) (fun w hC e => sls_nil (hC.s.i _ m3) e) (fun hpa => ?_)
  refine CW.seq (CW.seq (CW.rg (RL.p rfl (RL.fieldAddr fa_35_1 rfl rfl rfl rfl (RL.load Tryz.isAgg33 rfl rfl rfl rfl (Rd.get (by repeat (first | exact List.Mem.head _ | apply List.Mem.tail)) (pl_tl (P := { P with cf := P.cf.few }) hcm _ _ 0)) ?_)))))
  refine RL.lenS Tryz.runUnderlying33 rfl rfl rfl rfl (RL.p rfl (RL.p rfl ?_))
  apply RL.andB (d := 16) (dp := 19) (l' := (Sq.of [])) rfl (sK [1, 2, 3, 4] rfl)
  ·
    intro hb6 K6
    refine RL.p rfl (RL.p rfl (RL.p rfl ?_))
    exact K6 _ (.cons rfl (sK [1, 2, 3, 4] rfl))
  ·
    intro hb6 K6
    refine RL.p rfl (RL.p rfl (RL.p rfl ?_))
    exact K6 _ (.cons rfl (sK [1, 2, 3, 4] rfl))
  refine RL.nil (NQ.seq ?_)
  refine CW.cond rfl (fun hlt => ?_) (fun hlt => ?_)
  ·
    have hlt' : i < P.zs.length ∧ i < 12 := by simp at hlt; omega
    obtain ⟨hlt', h12⟩ := hlt'
    cases pz with
    | none => exact absurd (hpa rfl) (by omega)
    | some az =>
    obtain ⟨⟨z, pc, cc⟩, hzx⟩ : ∃ z, ZL[i]? = some z := ⟨_, List.getElem?_eq_getElem (by omega)⟩
    have hz1 : P.zs[i]? = some z := by rw [← hzl, List.getElem?_map, hzx]; rfl
    have hzm := List.mem_of_getElem? hzx
    have hzn : z.L.length ≤ 2 ^ 63 - 1 := (hp _ hzm).1
    have hzc : z.L.length ≤ cc := (hp _ hzm).2
    have ms : sls pc 2 z.L.length (z.L.flatMap Pt.cells) ∈ J := m4 _ hzm
    have e0 : RdsN J (az.add (i * 4)) 4 (znC z.keep (.slice pc z.L.length cc) z.fl z.rf) := flat_rdsA (f := znA) m3 hzx (fun z _ => rfl)
    have hmin : min ((z.L.length : Nat) : Int) 20 = ((min z.L.length 20 : Nat) : Int) := by omega
    have hml : 0 + (min z.L.length 20 - 0) = z.few.L.length := by show _ = (z.L.take 20).length; rw [List.length_take]; omega
    have hfl : z.few.L.length ≤ 20 := by rw [← hml]; omega
    have hsrc : ∀ H, Src J H (if cc = 0 then pc else pc.map (·.add (0 * 2))) (min z.L.length 20 - 0) 2 (z.few.L.flatMap Pt.cells) := fun H => by
      have := Src.sub (lo := 0) (hi := min z.L.length 20) (cap := cc) (Src.sls (I := J) (H := H) ms) (by omega) (by omega) (by omega)
      rw [Nat.zero_mul, List.drop_zero, Nat.sub_zero, pts_cut (by omega), show z.L.take (min z.L.length 20) = z.few.L by rw [Nat.min_comm, ← List.take_take, List.take_length]; rfl] at this
      simpa using this
    refine CW.skip (NQ.seq (CW.seq (CW.block (CW.seq (CW.region (ef := [5, 6]) (bk := [6]) (RL.fieldAddr fa_35_1 rfl rfl rfl rfl (RL.load Tryz.isAgg33 rfl rfl rfl rfl (Rd.get (by repeat (first | exact List.Mem.head _ | apply List.Mem.tail)) (pl_tl (P := { P with cf := P.cf.few }) hcm _ _ 0)) ?_)))))))
    refine RL.p rfl (RL.idx (j := i) Tryz.runUnderlying33 Tryz.sizeOf73 rfl rfl rfl rfl rfl rfl hlt' (RL.loadSq Tryz.isAgg73 Tryz.sizeOf73 rfl rfl rfl rfl ?_))
    refine RL.alloc Tryz.zeroValue73 rfl rfl rfl rfl rfl ?_
    intro b3
    refine RL.store (vs := [_, _, _, _]) Tryz.sizeOf73 rfl rfl rfl rfl rfl rfl rfl rfl rfl (by repeat (first | exact Upd.here | apply Upd.there)) ?_
    refine RL.nil (NQ.seq (CW.ok [1, 2, 3, 4, 5] rfl (CW.seq (CW.region (ef := [0, 8, 10]) (bk := [8, 10]) (RL.buildOwn [] Tryz.runUnderlying71 Tryz.sizeOf80 Tryz.zeroValue80 rfl rfl (by decide) (by decide) rfl (by decide) rfl rfl rfl rfl rfl rfl ?_)))))
    intro ox
    refine RL.fieldAddr fa_73_1 rfl rfl rfl rfl (RL.loadq Tryz.isAgg71 rfl rfl rfl rfl ?_)
    refine RL.fieldAddr fa_73_1 rfl rfl rfl rfl (RL.loadq Tryz.isAgg71 rfl rfl rfl rfl ?_)
    refine RL.lenS Tryz.runUnderlying71 rfl rfl rfl rfl (RL.min rfl rfl rfl rfl rfl ?_)
    rw [hmin]
    refine RL.slice (lo := 0) (hi := min z.L.length 20) Tryz.runUnderlying71 Tryz.sizeOf80 rfl rfl rfl rfl rfl rfl (by omega) (by omega) ?_
    refine RL.appendA el_71 rfl rfl rfl rfl rfl rfl rfl (by first | exact ⟨(.take (Pick.none _)), rfl⟩ | exact ⟨(.leave (.take (Pick.none _))), rfl⟩ | exact ⟨(.leave (.leave (.take (Pick.none _)))), rfl⟩ | exact ⟨(.leave (.leave (.leave (.take (Pick.none _))))), rfl⟩ | exact ⟨(.leave (.leave (.leave (.leave (.take (Pick.none _)))))), rfl⟩ | exact ⟨(.leave (.leave (.leave (.leave (.leave (.take (Pick.none _))))))), rfl⟩ | exact ⟨(.leave (.leave (.leave (.leave (.leave (.leave (.take (Pick.none _)))))))), rfl⟩ | exact ⟨(.leave (.leave (.leave (.leave (.leave (.leave (.leave (.take (Pick.none _))))))))), rfl⟩ | exact ⟨(.leave (.leave (.leave (.leave (.leave (.leave (.leave (.leave (.take (Pick.none _)))))))))), rfl⟩ | exact ⟨(.leave (.leave (.leave (.leave (.leave (.leave (.leave (.leave (.leave (.take (Pick.none _))))))))))), rfl⟩) (hsrc _) (pts_ones _) (by first | omega | (simp only [maxLen]; omega)) (by first | omega | (simp only [maxLen]; omega)) ?_
    intro op cp hop
    rw [hml, List.nil_append]
    refine RL.fieldAddr fa_73_1 rfl rfl rfl rfl (RL.storeX (vs := [_]) (show spl (znC z.keep (.slice pc z.L.length cc) z.fl z.rf) (0 + 1) [slO op z.few.L.length cp] = znC z.few.keep (slO op z.few.L.length cp) z.few.fl z.few.rf from rfl) Tryz.sizeOf71 rfl rfl rfl rfl rfl rfl rfl rfl (by repeat (first | exact Upd.here | apply Upd.there)) (Nat.le_of_ble_eq_true rfl) ?_)
    refine RL.nil (NQ.seq (CW.ok [1, 2, 3, 4, 5] rfl (CW.region (ef := [2, 3]) (bk := [3]) (RL.p rfl (RL.loadW Tryz.isAgg73 Tryz.sizeOf73 rfl rfl rfl rfl (by repeat (first | exact List.Mem.head _ | apply List.Mem.tail)) rfl ?_)))))
    refine RL.buildSlice (znC z.few.keep (slO op z.few.L.length cp) z.few.fl z.few.rf) Tryz.runUnderlying33 Tryz.sizeOf73 Tryz.zeroValue73 rfl rfl (by decide) (by decide) rfl rfl rfl rfl rfl (fill_one4 rfl) ?_
    intro bx
    refine RL.appendA el_33 rfl rfl rfl rfl rfl rfl rfl (by first | exact ⟨(.take (Pick.none _)), rfl⟩ | exact ⟨(.leave (.take (Pick.none _))), rfl⟩ | exact ⟨(.leave (.leave (.take (Pick.none _)))), rfl⟩ | exact ⟨(.leave (.leave (.leave (.take (Pick.none _))))), rfl⟩ | exact ⟨(.leave (.leave (.leave (.leave (.take (Pick.none _)))))), rfl⟩ | exact ⟨(.leave (.leave (.leave (.leave (.leave (.take (Pick.none _))))))), rfl⟩ | exact ⟨(.leave (.leave (.leave (.leave (.leave (.leave (.take (Pick.none _)))))))), rfl⟩ | exact ⟨(.leave (.leave (.leave (.leave (.leave (.leave (.leave (.take (Pick.none _))))))))), rfl⟩ | exact ⟨(.leave (.leave (.leave (.leave (.leave (.leave (.leave (.leave (.take (Pick.none _)))))))))), rfl⟩ | exact ⟨(.leave (.leave (.leave (.leave (.leave (.leave (.leave (.leave (.leave (.take (Pick.none _))))))))))), rfl⟩) (Src.cel (cs := znC z.few.keep (slO op z.few.L.length cp) z.few.fl z.few.rf) (by repeat (first | exact List.Mem.head _ | apply List.Mem.tail)) rfl) (ones_spec rfl) (by first | omega | (simp only [maxLen]; omega)) (by first | omega | (simp only [maxLen]; omega)) ?_
    intro ob1 cap1 ho1
    refine RL.p rfl (RL.nil (NQ.block (NQ.seq (CW.rg (RL.p rfl (RL.bx rfl (wrapV_i64 (by omega) (by omega)) ?_))))))
    refine RL.p rfl (RL.nil ?_)
    refine NQ.round (g := (i, oy, cy, YL)) (i + 1, ob1, cap1, YL ++ [(z.few, op, cp)]) ⟨⟨hlt', h12⟩, few_step h12 hy hz1 op cp⟩ (by show P.zs.length - (i + 1) < P.zs.length - i; omega) (.cons rfl (.cons rfl (.cons rfl (.cons rfl .nil)))) (fun w h => by
      dsimp only
      rw [← zo_flat]
      exact (Cls.pushA (zo_perm _ YL (z.few, op, cp)) (h.rea (H' := [own op cp 80 2 z.few.L.length (z.few.L.flatMap Pt.cells), allI (YL.map (znT 80)), own ob1 cap1 73 4 (i + 1) (YL.flatMap znO ++ znC z.few.keep (slO op z.few.L.length cp) z.few.fl z.few.rf), cel b1 (plC { P with cf := P.cf.few } (slO ob P.cf.few.L.length cap) (.slice (some az) P.zs.length cz)) 35, cel b2 (plC zeroPl (.slice none 0 0) (.slice none 0 0)) 35, own ob cap 98 48 P.cf.few.L.length (P.cf.few.L.flatMap Sr.cells)]) (fun _ h => h) (by repeat (first | exact Rea.nil | (apply Rea.cons; (solve | (repeat (first | exact Del.here | apply Del.there)))))))).rea (fun _ h => h) (by repeat (first | exact Rea.nil | (apply Rea.cons; (solve | (repeat (first | exact Del.here | apply Del.there)))))))
  ·
    have hin : i = P.few.zs.length := by
      show i = ((P.zs.take 12).map Zn.few).length
      rw [List.length_map, List.length_take]; simp at hlt; omega
    have hy' : YL.map (·.1) = P.few.zs := by
      have h12 : P.zs.take i = P.zs.take 12 := by
        simp at hlt
        rcases Nat.lt_or_ge i 12 with h | h
        · rw [List.take_of_length_le (by omega), List.take_of_length_le (by omega)]
        · rw [show i = 12 by omega]
      rw [hy, h12]; rfl
    refine CW.exit (XQ.seq (XQ.seq (XQ.hit (NQ.seq (CW.seq (CW.region (ef := [2]) (bk := [2]) (RL.p rfl (RL.fieldAddr fa_35_1 rfl rfl rfl rfl (RL.storeX (vs := [_]) (pl_zset (P := { P with cf := P.cf.few }) hcm _ _ _) Tryz.sizeOf33 rfl rfl rfl rfl rfl rfl rfl rfl (by repeat (first | exact Upd.here | apply Upd.there)) (by rw [hpq]; exact Nat.le_of_ble_eq_true rfl) ?_)))))))))
    refine RL.nil (NQ.seq (CW.seq (CW.region (ef := [1]) (bk := [1]) (RL.loadW Tryz.isAgg35 Tryz.sizeOf35 rfl rfl rfl rfl (by repeat (first | exact List.Mem.head _ | apply List.Mem.tail)) (hpq _ _) ?_))))
    refine RL.storeW Tryz.sizeOf35 rfl rfl rfl rfl rfl rfl rfl (pl_ones _ rfl rfl) (by repeat (first | exact Upd.here | apply Upd.there)) (hpq _ _) rfl ?_
    refine RL.nil (NQ.seq (CW.ok [2] rfl (CW.ret ?_)))
    subst hin
    refine RQ.rea (fun _ h => h) (H' := [own ob cap 98 48 P.few.cf.L.length (P.few.cf.L.flatMap Sr.cells), own oy cy 73 4 P.few.zs.length (YL.flatMap znO), allI (YL.map (znT 80)), cel b2 (plC P.few (slO ob P.few.cf.L.length cap) (slO oy P.few.zs.length cy)) 35]) (by repeat (first | exact Rea.nil | (apply Rea.cons; (solve | (repeat (first | exact Del.here | apply Del.there)))))) ?_
    exact RQ.post (resW rfl rfl Tryz.isAgg35 Tryz.sizeOf35 (by repeat (first | exact List.Mem.head _ | apply List.Mem.tail)) (hpq _ _)) (.keep (.keep (.keep (Split.none _)))) ⟨ob, cap, oy, cy, YL, hy', rfl, rfl, rfl⟩
end Go.Proofs.YthndhipjfdgdfaaGreatDoor

namespace Go.Proofs.YthndhipjfdgdfaaGreatDoor
open Go.PK
/-! ### A plan that is read -/
noncomputable def rBool : Rdr Tryz.prog 4 Bool := Rdr.bool (by kernel_rfl) (by kernel_rfl)
noncomputable def rPt : Rdr Tryz.prog 80 (List Int) := rFix.array 2 1 (by kernel_rfl) (by kernel_rfl) (by kernel_rfl) (List.map (Value.int .i64)) (flat_one (Value.int .i64))
noncomputable def rPts : Rdr Tryz.prog 71 (Sl (List Int)) := rPt.slice 2 (by kernel_rfl) (by kernel_rfl) (by kernel_rfl) (by decide) (fun l => l.flatMap (List.map (Value.int .i64))) (fun _ => rfl)
def toPt (l : List Int) : Pt := (l.getD 0 0, l.getD 1 0)
theorem toPt_cells {l : List Int} (h : l.length = 2) : l.map (Value.int .i64) = (toPt l).cells := by
  match l, h with
  | [a, b], _ => rfl
theorem toPt_flat : ∀ {l : List (List Int)}, (∀ x ∈ l, x.length = 2) → l.flatMap (List.map (Value.int .i64)) = (l.map toPt).flatMap Pt.cells
  | [], _ => rfl
  | x :: r, h => by
    rw [List.flatMap_cons, List.map_cons, List.flatMap_cons, toPt_cells (h x (List.mem_cons_self ..)), toPt_flat (fun y hy => h y (List.mem_cons_of_mem _ hy))]
structure ZA.Ok (z : ZA) : Prop where
  n : i64 z.1.fl ∧ i64 z.1.rf
  L : ∀ p ∈ z.1.L, i64 p.1 ∧ i64 p.2
  l : z.1.L.length ≤ z.2.2 ∧ z.2.2 ≤ maxLen
set_option maxRecDepth 100000
noncomputable def rZn : Rdr Tryz.prog 73 ZA :=
  Rdr.struct (fs := [Field.mk "Keep" 4 0 false "" "" 0, Field.mk "L" 71 1 false "" "" 8, Field.mk "Floor" 23 2 false "" "" 32, Field.mk "Roof" 23 3 false "" "" 40].toArray) (tot := 4) (α := Bool × Sl (List Int) × Int × Int × Unit)
    (by kernel_rfl) (by kernel_rfl)
    (.cons (k := 1) rBool rfl (by kernel_rfl) (by decide) (.cons (k := 1) rPts rfl (by kernel_rfl) (by decide) (.cons (k := 1) rFix rfl (by kernel_rfl) (by decide) (.cons (k := 1) rFix rfl (by kernel_rfl) (by decide) .nil))))
    znA (fun z => [znB z]) ZA.Ok
    (fun ⟨k, s, f, g, _⟩ h => by
      obtain ⟨-, ⟨h1, h2, -, h4⟩, h5, h6, -⟩ := h
      have h1 : s.l.length ≤ s.c := h1
      have h4 : ∀ x ∈ s.l, x.length = 2 ∧ ∀ a ∈ x, wfk .i64 a := h4
      have hf := toPt_flat (fun x hx => (h4 x hx).1)
      refine ⟨(⟨k, s.l.map toPt, f, g⟩, s.p, s.c), ?_, ⟨⟨wfk_bounds h5, wfk_bounds h6⟩, fun p hp => ?_, by rw [List.length_map]; exact ⟨h1, h2⟩⟩, ?_⟩
      · show _ = [Value.bool k] ++ ([Value.slice s.p s.l.length s.c] ++ ([Value.int .i64 f] ++ ([Value.int .i64 g] ++ [])))
        simp [znA, znC]
      · obtain ⟨x, hx, rfl⟩ := List.mem_map.1 hp
        obtain ⟨g1, g2⟩ := h4 x hx
        match x, g1 with
        | [a, b], _ => exact ⟨wfk_bounds (g2 a (by simp)), wfk_bounds (g2 b (by simp))⟩
      · intro y hy
        rw [List.mem_singleton.1 hy]
        have e : znB (⟨k, s.l.map toPt, f, g⟩, s.p, s.c) = sls s.p 2 s.l.length (s.l.flatMap (List.map (Value.int .i64))) := by
          rw [hf, znB]; simp only [List.length_map]
        rw [e]
        simp [Flds.cons, rPts, Rdr.slice])
    (fun _ _ => rfl)
noncomputable def rZns : Rdr Tryz.prog 33 (Sl ZA) := rZn.slice 4 (by kernel_rfl) (by kernel_rfl) (by kernel_rfl) (by decide) (fun l => l.flatMap znA) (fun _ => rfl)
def Wt.nums (x : Wt) : List Int := [x.go, x.gg, x.gm, x.sl, x.mo, x.sa, x.ra, x.ba, x.ho, x.pr]
noncomputable def rGateF : Rdr Tryz.prog 94 (Int × Int × Int) :=
  Rdr.struct (fs := [Field.mk "Open" 23 0 false "" "" 0, Field.mk "Grow" 23 1 false "" "" 8, Field.mk "Most" 23 2 false "" "" 16].toArray) (tot := 3) (α := Int × Int × Int × Unit)
    (by kernel_rfl) (by kernel_rfl)
    (.cons (k := 1) rFix rfl (by kernel_rfl) (by decide) (.cons (k := 1) rFix rfl (by kernel_rfl) (by decide) (.cons (k := 1) rFix rfl (by kernel_rfl) (by decide) .nil)))
    (fun g => [.int .i64 g.1, .int .i64 g.2.1, .int .i64 g.2.2]) (fun _ => []) (fun g => i64 g.1 ∧ i64 g.2.1 ∧ i64 g.2.2)
    (fun ⟨a, b, c, _⟩ h => ⟨⟨a, b, c⟩, rfl, ⟨wfk_bounds h.1, wfk_bounds h.2.1, wfk_bounds h.2.2.1⟩, by simp⟩)
    (fun _ _ => rfl)
noncomputable def rWtF : Rdr Tryz.prog 96 Wt :=
  Rdr.struct (fs := [Field.mk "Gate" 94 0 false "" "" 0, Field.mk "Slack" 23 3 false "" "" 24, Field.mk "Most" 23 4 false "" "" 32, Field.mk "Same" 3 5 false "" "" 40, Field.mk "Rate" 23 6 false "" "" 48, Field.mk "Bad" 3 7 false "" "" 56, Field.mk "Hold" 3 8 false "" "" 64, Field.mk "Prove" 3 9 false "" "" 72].toArray) (tot := 10) (α := (Int × Int × Int) × Int × Int × Int × Int × Int × Int × Int × Unit)
    (by kernel_rfl) (by kernel_rfl)
    (.cons (k := 3) rGateF rfl (by kernel_rfl) (by decide) (.cons (k := 1) rFix rfl (by kernel_rfl) (by decide) (.cons (k := 1) rFix rfl (by kernel_rfl) (by decide) (.cons (k := 1) rInt rfl (by kernel_rfl) (by decide) (.cons (k := 1) rFix rfl (by kernel_rfl) (by decide) (.cons (k := 1) rInt rfl (by kernel_rfl) (by decide) (.cons (k := 1) rInt rfl (by kernel_rfl) (by decide) (.cons (k := 1) rInt rfl (by kernel_rfl) (by decide) .nil))))))))
    Wt.cells (fun _ => []) (fun x => ∀ n ∈ x.nums, i64 n)
    (fun ⟨⟨a, b, c⟩, sl, mo, sa, ra, ba, ho, pr, _⟩ h => ⟨⟨a, b, c, sl, mo, sa, ra, ba, ho, pr⟩, rfl, fun n hn => by
      obtain ⟨⟨g1, g2, g3⟩, h2, h3, h4, h5, h6, h7, h8, -⟩ := h
      simp only [Wt.nums, List.mem_cons, List.not_mem_nil, or_false] at hn
      rcases hn with rfl | rfl | rfl | rfl | rfl | rfl | rfl | rfl | rfl | rfl
      · exact g1
      · exact g2
      · exact g3
      · exact wfk_bounds h2
      · exact wfk_bounds h3
      · exact wfk_bounds h4
      · exact wfk_bounds h5
      · exact wfk_bounds h6
      · exact wfk_bounds h7
      · exact wfk_bounds h8, by simp⟩)
    (fun _ _ => rfl)
noncomputable def rSrF : Rdr Tryz.prog 98 Sr :=
  Rdr.struct (fs := [Field.mk "ID" 3 0 false "" "" 0, Field.mk "Kind" 3 1 false "" "" 8, Field.mk "Root" 29 2 false "" "" 16, Field.mk "Weight" 3 34 false "" "" 48, Field.mk "Gain" 3 35 false "" "" 56, Field.mk "Step" 23 36 false "" "" 64, Field.mk "Horizon" 3 37 false "" "" 72, Field.mk "Watch" 96 38 false "" "" 80].toArray) (tot := 48) (α := Int × Int × List B8 × Int × Int × Int × Int × Wt × Unit)
    (by kernel_rfl) (by kernel_rfl)
    (.cons (k := 1) rInt rfl (by kernel_rfl) (by decide) (.cons (k := 1) rInt rfl (by kernel_rfl) (by decide) (.cons (k := 32) rKey rfl (by kernel_rfl) (by decide) (.cons (k := 1) rInt rfl (by kernel_rfl) (by decide) (.cons (k := 1) rInt rfl (by kernel_rfl) (by decide) (.cons (k := 1) rFix rfl (by kernel_rfl) (by decide) (.cons (k := 1) rInt rfl (by kernel_rfl) (by decide) (.cons (k := 10) rWtF rfl (by kernel_rfl) (by decide) .nil))))))))
    Sr.cells (fun _ => []) Sr.All
    (fun ⟨id, kd, k, w, g, st, hz, wt, _⟩ h => by
      obtain ⟨h1, h2, h3, h4, h5, h6, h7, h8, -⟩ := h
      have h8 : ∀ n ∈ wt.nums, i64 n := h8
      refine ⟨⟨id, kd, k, w, g, st, hz, wt⟩, ?_, ⟨h3.1, fun n hn => ?_⟩, by simp⟩
      · show _ = [Value.int .i64 id] ++ ([Value.int .i64 kd] ++ (bytes k ++ ([Value.int .i64 w] ++ ([Value.int .i64 g] ++ ([Value.int .i64 st] ++ ([Value.int .i64 hz] ++ (wt.cells ++ [])))))))
        simp [Sr.cells, Sr.tl]
      · have hn : n ∈ id :: kd :: w :: g :: st :: hz :: wt.nums := hn
        simp only [List.mem_cons] at hn
        rcases hn with rfl | rfl | rfl | rfl | rfl | rfl | hn
        · exact wfk_bounds h1
        · exact wfk_bounds h2
        · exact wfk_bounds h4
        · exact wfk_bounds h5
        · exact wfk_bounds h6
        · exact wfk_bounds h7
        · exact h8 n hn)
    (fun _ h => sr_len h.rt)
noncomputable def rSrsF : Rdr Tryz.prog 22 (Sl Sr) := rSrF.slice 48 (by kernel_rfl) (by kernel_rfl) (by kernel_rfl) (by decide) (fun l => l.flatMap Sr.cells) (fun _ => rfl)
def Cf.nums (c : Cf) : List Int := [c.g0, c.g1, c.g2, c.dr, c.sc.st, c.sc.ln, c.sc.lg, c.sc.of, c.mo, c.ti, c.gr]
structure CfA.All (x : CfA) : Prop where
  cm : x.c.cm.length = 32
  L : ∀ s ∈ x.c.L, s.All
  n : ∀ v ∈ x.c.nums, i64 v
  sd : 0 ≤ x.c.sd ∧ x.c.sd < 18446744073709551616
  l : x.c.L.length ≤ x.cap
  b : x.c.L.length ≤ maxLen
noncomputable def rSchF : Rdr Tryz.prog 27 Sch :=
  Rdr.struct (fs := [Field.mk "Start" 3 0 false "" "" 0, Field.mk "Length" 3 1 false "" "" 8, Field.mk "Lag" 3 2 false "" "" 16, Field.mk "Off" 3 3 false "" "" 24].toArray) (tot := 4) (α := Int × Int × Int × Int × Unit)
    (by kernel_rfl) (by kernel_rfl)
    (.cons (k := 1) rInt rfl (by kernel_rfl) (by decide) (.cons (k := 1) rInt rfl (by kernel_rfl) (by decide) (.cons (k := 1) rInt rfl (by kernel_rfl) (by decide) (.cons (k := 1) rInt rfl (by kernel_rfl) (by decide) .nil))))
    Sch.cells (fun _ => []) (fun s => i64 s.st ∧ i64 s.ln ∧ i64 s.lg ∧ i64 s.of)
    (fun ⟨a, b, c, d, _⟩ h => ⟨⟨a, b, c, d⟩, rfl, ⟨wfk_bounds h.1, wfk_bounds h.2.1, wfk_bounds h.2.2.1, wfk_bounds h.2.2.2.1⟩, by simp⟩)
    (fun _ _ => rfl)
noncomputable def rCfF : Rdr Tryz.prog 32 CfA :=
  Rdr.struct (fs := [Field.mk "Sources" 22 0 false "" "" 0, Field.mk "Gravity" 25 1 false "" "" 24, Field.mk "Drift" 23 4 false "" "" 48, Field.mk "Slot" 27 5 false "" "" 56, Field.mk "Commit" 29 9 false "" "" 88, Field.mk "Most" 3 41 false "" "" 120, Field.mk "Time" 3 42 false "" "" 128, Field.mk "Grace" 3 43 false "" "" 136, Field.mk "Stride" 30 44 false "" "" 144].toArray) (tot := 45) (α := Sl Sr × List Int × Int × Sch × List B8 × Int × Int × Int × Int × Unit)
    (by kernel_rfl) (by kernel_rfl)
    (.cons (k := 1) rSrsF rfl (by kernel_rfl) (by decide) (.cons (k := 3) rVec rfl (by kernel_rfl) (by decide) (.cons (k := 1) rFix rfl (by kernel_rfl) (by decide) (.cons (k := 4) rSchF rfl (by kernel_rfl) (by decide) (.cons (k := 32) rKey rfl (by kernel_rfl) (by decide) (.cons (k := 1) rInt rfl (by kernel_rfl) (by decide) (.cons (k := 1) rInt rfl (by kernel_rfl) (by decide) (.cons (k := 1) rInt rfl (by kernel_rfl) (by decide) (.cons (k := 1) rU64 rfl (by kernel_rfl) (by decide) .nil)))))))))
    (fun x => x.c.cells x.sl) (fun x => [sls x.p 48 x.c.L.length (x.c.L.flatMap Sr.cells)]) CfA.All
    (fun ⟨s, v, dr, sc, cm, mo, ti, gr, sd, _⟩ h => by
      obtain ⟨⟨h1, h1', -, h1f⟩, h2, h3, h4, h5, h6, h7, h8, h9, -⟩ := h
      have h1 : s.l.length ≤ s.c := h1
      have h1' : s.c ≤ maxLen := h1'
      have g9 : 0 ≤ sd ∧ sd ≤ 18446744073709551615 := wfk_bounds (show wfk .u64 sd from h9)
      obtain ⟨a, b, c, rfl⟩ : ∃ a b c, v = [a, b, c] := by
        have : v.length = 3 := h2.1
        match v, this with
        | [a, b, c], _ => exact ⟨a, b, c, rfl⟩
      refine ⟨⟨⟨a, b, c, dr, sc, cm, mo, ti, gr, sd, s.l⟩, s.p, s.c⟩, ?_, ⟨h5.1, h1f, fun n hn => ?_, ⟨g9.1, by dsimp only; omega⟩, h1, Nat.le_trans h1 h1'⟩, ?_⟩
      · show _ = [Value.slice s.p s.l.length s.c] ++ ([Value.int .i64 a, Value.int .i64 b, Value.int .i64 c] ++ ([Value.int .i64 dr] ++ (sc.cells ++ (bytes cm ++ ([Value.int .i64 mo] ++ ([Value.int .i64 ti] ++ ([Value.int .i64 gr] ++ ([Value.int .u64 sd] ++ []))))))))
        simp [Cf.cells, Cf.tl, Sch.cells, CfA.sl]
      · obtain ⟨s1, s2, s3, s4⟩ := h4
        simp only [Cf.nums, List.mem_cons, List.not_mem_nil, or_false] at hn
        rcases hn with rfl | rfl | rfl | rfl | rfl | rfl | rfl | rfl | rfl | rfl | rfl
        · exact wfk_bounds (h2.2 _ (by simp))
        · exact wfk_bounds (h2.2 _ (by simp))
        · exact wfk_bounds (h2.2 _ (by simp))
        · exact wfk_bounds h3
        · exact s1
        · exact s2
        · exact s3
        · exact s4
        · exact wfk_bounds h6
        · exact wfk_bounds h7
        · exact wfk_bounds h8
      · intro y hy
        rw [List.mem_singleton.1 hy]
        simp [Flds.cons, rSrsF, Rdr.slice])
    (fun x h => cf_len h.cm _)
structure PlA where
  P : Pl
  pa : Option Addr
  ca : Nat
  pz : Option Addr
  cz : Nat
  ZL : List ZA
structure PlA.Ok (x : PlA) : Prop where
  cf : CfA.All ⟨x.P.cf, x.pa, x.ca⟩
  zl : x.ZL.map (·.1) = x.P.zs
  n : i64 x.P.de ∧ i64 x.P.ra ∧ i64 x.P.mo ∧ i64 x.P.sz
  z : ∀ z ∈ x.ZL, z.Ok
  zn : x.P.zs.length ≤ maxLen
noncomputable def rPl : Rdr Tryz.prog 35 PlA :=
  Rdr.struct (fs := [Field.mk "Config" 32 0 false "" "" 0, Field.mk "Zones" 33 45 false "" "" 152, Field.mk "Delay" 3 46 false "" "" 176, Field.mk "Rate" 3 47 false "" "" 184, Field.mk "Most" 3 48 false "" "" 192, Field.mk "Size" 3 49 false "" "" 200].toArray) (tot := 50) (α := CfA × Sl ZA × Int × Int × Int × Int × Unit)
    (by kernel_rfl) (by kernel_rfl)
    (.cons (k := 45) rCfF rfl (by kernel_rfl) (by decide) (.cons (k := 1) rZns rfl (by kernel_rfl) (by decide) (.cons (k := 1) rInt rfl (by kernel_rfl) (by decide) (.cons (k := 1) rInt rfl (by kernel_rfl) (by decide) (.cons (k := 1) rInt rfl (by kernel_rfl) (by decide) (.cons (k := 1) rInt rfl (by kernel_rfl) (by decide) .nil))))))
    (fun x => plC x.P (.slice x.pa x.P.cf.L.length x.ca) (.slice x.pz x.P.zs.length x.cz)) (fun x => sls x.pa 48 x.P.cf.L.length (x.P.cf.L.flatMap Sr.cells) :: sls x.pz 4 x.P.zs.length (x.ZL.flatMap znA) :: x.ZL.map znB) PlA.Ok
    (fun ⟨c, s, de, ra, mo, sz, _⟩ h => by
      obtain ⟨h1, ⟨h2, h2', -, h2f⟩, h3, h4, h5, h6, -⟩ := h
      have h1 : CfA.All c := h1
      have h2 : s.l.length ≤ s.c := h2
      have h2' : s.c ≤ maxLen := h2'
      refine ⟨⟨⟨c.c, s.l.map (·.1), de, ra, mo, sz⟩, c.p, c.cap, s.p, s.c, s.l⟩, ?_, ⟨h1, rfl, ⟨wfk_bounds h3, wfk_bounds h4, wfk_bounds h5, wfk_bounds h6⟩, h2f, by rw [List.length_map]; exact Nat.le_trans h2 h2'⟩, ?_⟩
      · show _ = c.c.cells c.sl ++ ([Value.slice s.p s.l.length s.c] ++ ([Value.int .i64 de] ++ ([Value.int .i64 ra] ++ ([Value.int .i64 mo] ++ ([Value.int .i64 sz] ++ [])))))
        simp [plC, CfA.sl]
      · intro y hy
        dsimp only at hy
        rw [List.length_map] at hy
        rcases List.mem_cons.1 hy with rfl | hy
        · simp [Flds.cons, rCfF, Rdr.struct]
        rcases List.mem_cons.1 hy with rfl | hy
        · simp [Flds.cons, rZns, Rdr.slice]
        · obtain ⟨z, hz, rfl⟩ := List.mem_map.1 hy
          simp only [Flds.cons, List.mem_append]
          refine .inr (.inl (List.mem_cons_of_mem _ (List.mem_flatMap.2 ⟨z, hz, List.mem_singleton.2 rfl⟩))))
    (fun x h => pl_len h.cf.cm _ _)
end Go.Proofs.YthndhipjfdgdfaaGreatDoor
