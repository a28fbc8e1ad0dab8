import Derived.Test.YthndhipjfdgdfaaGreatDoorFacts
import Derived.Test.YthndhipjfdgdfaaGreatDoorMA
import Derived.Test.YthndhipjfdgdfaaGreatDoorGA
import Derived.Test.YthndhipjfdgdfaaGreatDoorPkBd
import Derived.KernelRfl
set_option linter.unusedVariables false
set_option linter.unusedSimpArgs false
namespace Go.Proofs.YthndhipjfdgdfaaGreatDoor
open Go.PK
/-! ### strings.Builder -/
/-- A block that a Builder lies at the head of. -/
def BdC (C : TypeId) : Prop := liesAt Tryz.prog Tryz.prog.depth C (2 / Tryz.prog.cellsOf C) 0 85 1 = true
theorem bd_own : BdC 85 := by unfold BdC; kernel_rfl
theorem bd_writer : BdC 87 := by unfold BdC; kernel_rfl
theorem bd_info : ∃ j, Tryz.prog.info? 85 = some j ∧ j.size = 2 := by
  have h : (Tryz.prog.info? 85).map (·.size) = some 2 := by kernel_rfl
  exact Option.map_eq_some_iff.1 h
theorem noesc (v : Value) (w : World) : (callFunc 124 #[v]).run Tryz.prog w = .ok (.value v) w := by
  rw [run_callFunc_extern Tryz.func124 (by kernel_rfl) (by kernel_rfl) (by kernel_rfl) (e := Extern.AbiNoEscape.same) (by kernel_rfl)]
  rw [Go.Lib.run_noEscape]; rfl
theorem neq_self (x y : Operand) (b : Nat) (w : World) : (do eqGuard .neq 82 x y (.pointer (some ⟨b, 0, none⟩)) (.pointer (some ⟨b, 0, none⟩)); binOp .neq 82 (.pointer (some ⟨b, 0, none⟩)) (.pointer (some ⟨b, 0, none⟩)) : Sem Value).run Tryz.prog w = .ok (.bool false) w := by
  obtain ⟨j, hj, -⟩ := bd_info
  have h := Go.Lib.run_neq_ptr_same (P := Tryz.prog) w (tp := 82) ⟨b, 0, none⟩ Tryz.underlying82 hj
  simp [eqGuard, h]
def bdL (C : TypeId) (b : Nat) (p : Option Addr) (ob : Option Nat) (cap n : Nat) (l : Tx) : List It := [cel b [.pointer p, slO ob n cap] C, own ob cap 5 1 n (bytes l)]
abbrev me (b : Nat) : Option Addr := some ⟨b, 0, none⟩
theorem bcheck_any (C : TypeId) (hC : BdC C) (b : Nat) (p : Option Addr) (hp : p = none ∨ p = me b) (v : Value) :
    Spc Tryz.prog 92 #[.pointer (me b)] [] [cel b [.pointer p, v] C] (fun r I' H' => r = .tuple #[] ∧ I' = [] ∧ H' = [cel b [.pointer (me b), v] C]) := by
  obtain ⟨jj, hj, hjs⟩ := bd_info
  refine Spc.enter Tryz.func92 rfl rfl rfl (fun w0 hw0 => ?_)
  refine CW.seq (CW.rg (RL.p rfl (RL.p rfl (RL.fieldAddr fa_85_0 rfl rfl rfl rfl (RL.load Tryz.isAgg82 rfl rfl rfl rfl (Rd.get (by repeat (first | exact List.Mem.head _ | apply List.Mem.tail)) rfl) ?_)))))
  refine RL.cmp rfl rfl rfl rfl rfl (eql_ptr Tryz.runUnderlying82 _) (RL.nil (NQ.seq ?_))
  rcases hp with rfl | rfl
  ·
    refine CW.condT rfl (rfl) (CW.region (ef := [3, 7]) (bk := [7]) (RL.p rfl (RL.p rfl (RL.toUnsafe (jj := jj) Tryz.underlying82 Tryz.underlying258 hj (by rw [hjs]; decide) rfl rfl rfl rfl (by repeat (first | exact List.Mem.head _ | apply List.Mem.tail)) (by simp) ?_))))
    refine RL.ext1 (noesc _) rfl rfl rfl rfl (RL.fromUnsafe (jj := jj) Tryz.underlying258 Tryz.underlying82 hj hC rfl rfl rfl rfl (by repeat (first | exact List.Mem.head _ | apply List.Mem.tail)) (by rfl) ?_)
    refine RL.p rfl (RL.fieldAddr fa_85_0 rfl rfl rfl rfl (RL.store (vs := [_]) Tryz.sizeOf82 rfl rfl rfl rfl rfl rfl rfl rfl rfl (by repeat (first | exact Upd.here | apply Upd.there)) ?_))
    refine RL.nil ?_
    exact NQ.post (res0 rfl) (.keep .nil) ⟨rfl, rfl, rfl⟩
  ·
    refine CW.condF rfl (rfl) (CW.seq (CW.rg (RL.p rfl (RL.p rfl (RL.fieldAddr fa_85_0 rfl rfl rfl rfl (RL.load Tryz.isAgg82 rfl rfl rfl rfl (Rd.get (by repeat (first | exact List.Mem.head _ | apply List.Mem.tail)) rfl) ?_))))))
    refine RL.p rfl (RL.cmp rfl rfl rfl rfl rfl (fun w => neq_self _ _ b w) ?_)
    refine RL.nil (NQ.seq (CW.ok [19] rfl (CW.condF rfl (rfl) (CW.skip ?_))))
    exact NQ.post (res0 rfl) (.keep .nil) ⟨rfl, rfl, rfl⟩
theorem bwrite_any (C : TypeId) (hC : BdC C) (b : Nat) (p : Option Addr) (hp : p = none ∨ p = me b) (ob : Option Nat) (cap n : Nat) (l s : Tx) (hm : n + s.length ≤ 1000000000) :
    Spc Tryz.prog 56 #[.pointer (me b), .string (txt s)] [] (bdL C b p ob cap n l)
      (fun r I' H' => ∃ ob' cap', r = .tuple #[.int .i64 (s.length : Int), .nilIface] ∧ I' = [] ∧ H' = bdL C b (me b) ob' cap' (n + s.length) (l ++ s) ∧ (n + s.length = 0 ∨ ob'.isSome = true)) := by
  dsimp only [bdL]
  refine Spc.enter Tryz.func56 rfl rfl rfl (fun w0 hw0 => ?_)
  refine CW.seq (CW.rg (RL.p rfl (RL.p rfl (RL.nil (NQ.seq (CW.seq (CW.region (ef := [1]) (bk := [1]) (RL.p rfl (RL.callq (bcheck_any C hC b p hp (slO ob n cap)) Tryz.call92 rfl rfl rfl rfl rfl (.inr rfl) ?_)))))))))
  rintro _ _ _ ⟨rfl, rfl, rfl⟩
  refine RL.nil (NQ.seq (CW.seq (CW.region (ef := [6, 9]) (bk := [6, 9]) (RL.p rfl (RL.p rfl (RL.p rfl (RL.fieldAddr fa_85_1 rfl rfl rfl rfl (RL.load Tryz.isAgg83 rfl rfl rfl rfl (Rd.get (by repeat (first | exact List.Mem.head _ | apply List.Mem.tail)) rfl) ?_))))))))
  refine RL.p rfl (RL.appendS el_83 Tryz.underlying9 rfl rfl rfl rfl rfl rfl rfl (by repeat (first | exact Pick.nil | apply Pick.take | apply Pick.leave)) rfl hm ?_)
  intro ob1 cap1 ho1
  refine RL.p rfl (RL.fieldAddr fa_85_1 rfl rfl rfl rfl (RL.store (vs := [_]) Tryz.sizeOf83 rfl rfl rfl rfl rfl rfl rfl rfl rfl (by repeat (first | exact Upd.here | apply Upd.there)) ?_))
  refine RL.nil (NQ.seq (CW.ok [1] rfl (CW.seq (CW.rg (RL.p rfl (RL.lenTxt Tryz.runUnderlying9 rfl rfl rfl rfl (RL.p rfl (RL.p rfl (RL.nil (NQ.seq (CW.ret (RQ.rea (H' := [cel b [.pointer (me b), slO ob1 (n + s.length) cap1] C, own ob1 cap1 5 1 (n + s.length) (bytes l ++ s.map U8)]) (fun _ h => h) (by repeat (first | exact Rea.nil | (apply Rea.cons; (solve | (repeat (first | exact Del.here | apply Del.there)))))) ?_))))))))))))
  refine RQ.post (res2 rfl rfl rfl) (.keep (.keep .nil)) ⟨ob1, cap1, rfl, rfl, ?_, ho1⟩
  simp [bdL]
theorem bbyte_any (C : TypeId) (hC : BdC C) (b : Nat) (p : Option Addr) (hp : p = none ∨ p = me b) (ob : Option Nat) (cap n : Nat) (l : Tx) (c : B8) (hm : n + 1 ≤ 1000000000) :
    Spc Tryz.prog 65 #[.pointer (me b), U8 c] [] (bdL C b p ob cap n l)
      (fun r I' H' => ∃ ob' cap', r = .nilIface ∧ I' = [] ∧ H' = bdL C b (me b) ob' cap' (n + 1) (l ++ [c]) ∧ ob'.isSome = true) := by
  dsimp only [bdL]
  refine Spc.enter Tryz.func65 rfl rfl rfl (fun w0 hw0 => ?_)
  refine CW.seq (CW.rg (RL.p rfl (RL.nil (NQ.seq (CW.seq (CW.region (ef := [1]) (bk := [1]) (RL.p rfl (RL.callq (bcheck_any C hC b p hp (slO ob n cap)) Tryz.call92 rfl rfl rfl rfl rfl (.inr rfl) ?_))))))))
  rintro _ _ _ ⟨rfl, rfl, rfl⟩
  refine RL.nil (NQ.seq (CW.seq (CW.region (ef := [6, 7, 10]) (bk := [7, 10]) (RL.p rfl (RL.p rfl (RL.p rfl (RL.fieldAddr fa_85_1 rfl rfl rfl rfl (RL.load Tryz.isAgg83 rfl rfl rfl rfl (Rd.get (by repeat (first | exact List.Mem.head _ | apply List.Mem.tail)) rfl) ?_))))))))
  refine RL.p rfl (RL.buildSlice [U8 c] Tryz.runUnderlying83 Tryz.sizeOf5 Tryz.zeroValue5 rfl rfl (by decide) (by decide) rfl rfl rfl rfl rfl rfl ?_)
  intro b2
  refine RL.appendA el_83 rfl rfl rfl rfl rfl rfl rfl (by first | exact ⟨(.take (Pick.none _)), rfl⟩ | exact ⟨(.leave (.take (Pick.none _))), rfl⟩ | exact ⟨(.leave (.leave (.take (Pick.none _)))), rfl⟩ | exact ⟨(.leave (.leave (.leave (.take (Pick.none _))))), rfl⟩ | exact ⟨(.leave (.leave (.leave (.leave (.take (Pick.none _)))))), rfl⟩ | exact ⟨(.leave (.leave (.leave (.leave (.leave (.take (Pick.none _))))))), rfl⟩ | exact ⟨(.leave (.leave (.leave (.leave (.leave (.leave (.take (Pick.none _)))))))), rfl⟩ | exact ⟨(.leave (.leave (.leave (.leave (.leave (.leave (.leave (.take (Pick.none _))))))))), rfl⟩ | exact ⟨(.leave (.leave (.leave (.leave (.leave (.leave (.leave (.leave (.take (Pick.none _)))))))))), rfl⟩ | exact ⟨(.leave (.leave (.leave (.leave (.leave (.leave (.leave (.leave (.leave (.take (Pick.none _))))))))))), rfl⟩) (Src.cel (cs := [U8 c]) (by repeat (first | exact List.Mem.head _ | apply List.Mem.tail)) rfl) (ones_spec rfl) (by simp only [maxLen]; omega) (by omega) ?_
  intro ob1 cap1 ho1
  refine RL.p rfl (RL.fieldAddr fa_85_1 rfl rfl rfl rfl (RL.store (vs := [_]) Tryz.sizeOf83 rfl rfl rfl rfl rfl rfl rfl rfl rfl (by repeat (first | exact Upd.here | apply Upd.there)) ?_))
  refine RL.nil (NQ.seq (CW.ok [] rfl (CW.seq (CW.rg (RL.p rfl (RL.nil (NQ.seq (CW.ret (RQ.rea (H' := [cel b [.pointer (me b), slO ob1 (n + 1) cap1] C, own ob1 cap1 5 1 (n + 1) (bytes l ++ [U8 c])]) (fun _ h => h) (by repeat (first | exact Rea.nil | (apply Rea.cons; (solve | (repeat (first | exact Del.here | apply Del.there)))))) ?_)))))))))
  refine RQ.post (res1 rfl rfl) (.keep (.keep .nil)) ⟨ob1, cap1, rfl, rfl, ?_, ho1.resolve_left (by omega)⟩
  simp [bdL]
theorem bstr_any (C : TypeId) (b : Nat) (p : Option Addr) (ob : Nat) (cap n : Nat) (l : Tx) (hn : l.length = n) (h0 : 0 < n) (hm : n ≤ 1000000000) :
    Spc Tryz.prog 33 #[.pointer (me b)] [] (bdL C b p (some ob) cap n l) (fun r I' H' => r = .string (txt l) ∧ I' = [] ∧ H' = [cel b [.pointer p, slO (some ob) n cap] C]) := by
  dsimp only [bdL]
  refine Spc.enter Tryz.func33 rfl rfl rfl (fun w0 hw0 => ?_)
  refine CW.seq (CW.rg (RL.p rfl (RL.nil (NQ.seq (CW.seq (CW.regionD (Sq.of [0, 1, 2, 3, 4, 5, 6, 7, 8, 9, 10, 11]) [10] [10] [0, 1, 2, 5, 6, 7, 9, 11] mixed (by kernel_rfl) ?_))))))
  refine RL.p rfl (RL.p rfl (RL.fieldAddr fa_85_1 rfl rfl rfl rfl (RL.load Tryz.isAgg83 rfl rfl rfl rfl (Rd.get (by repeat (first | exact List.Mem.head _ | apply List.Mem.tail)) rfl) ?_)))
  refine RL.sliceData rfl rfl rfl rfl (by repeat (first | exact List.Mem.head _ | apply List.Mem.tail)) h0 ?_
  refine RL.p rfl (RL.p rfl (RL.fieldAddr fa_85_1 rfl rfl rfl rfl (RL.load Tryz.isAgg83 rfl rfl rfl rfl (Rd.get (by repeat (first | exact List.Mem.head _ | apply List.Mem.tail)) rfl) ?_)))
  refine RL.lenS Tryz.runUnderlying83 rfl rfl rfl rfl (RL.unsafeStr (e := 5) Tryz.underlying155 (by kernel_rfl) rfl rfl rfl rfl rfl rfl rfl (by repeat (first | exact Pick.nil | apply Pick.take | apply Pick.leave)) hn h0 hm ?_)
  refine RL.p rfl (RL.nil (NQ.seq (CW.ok [2] rfl (CW.ret ?_))))
  exact RQ.post (res1 rfl rfl) (.keep .nil) ⟨rfl, rfl, rfl⟩
end Go.Proofs.YthndhipjfdgdfaaGreatDoor
