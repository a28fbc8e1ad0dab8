import Derived.Test.YtpaemkemknfmfaaGreatDoorFacts
import Derived.Test.YtpaemkemknfmfaaGreatDoorBase0
import Derived.Test.YtpaemkemknfmfaaGreatDoorGA
import Derived.Test.YtpaemkemknfmfaaGreatDoorPkBd
import Derived.KernelRfl
set_option linter.unusedVariables false
set_option linter.unusedSimpArgs false
namespace Go.PK
section
variable {P : Program} {L : List Oper} {ef bk : List Nat} {tq : Tq} {Q : Exit → Act → World → Prop} {N : Fm} {E : Env} {w0 : World} {S : List Nat} {I H : List It} {i : Nat} {l : Sq}
variable {d : Nat} {x y : Operand} {ty t yt : TypeId} {pos : String} {af : Array Edge} {g : Option (Nat × Bool)}
theorem RL.toUnsafeO {tt C : TypeId} {jj : TypeInfo} {b o : Nat} {cs : List Value} (hs : P.underlying t = some (.pointer tt)) (hd : P.underlying yt = some .unsafePointer) (ht : P.info? tt = some jj) (hj : jj.size ≠ 0)
    (ho : nth L i = some ⟨some d, .convert t yt x, ty, pos, af, g⟩) (hw : wants L E ⟨some d, .convert t yt x, ty, pos, af, g⟩ = true) (hN : Nat.blt d N.n = true)
    (hx : E.ev x = some (.pointer (some ⟨b, o, none⟩))) (hm : PK.cel b cs C ∈ H) (hc : o < cs.length) (h : RL P L ef bk tq Q l N ((d, .pointer (some ⟨b, o, none⟩)) :: E) w0 S I H) (hq : tq.l.contains i = false := by rfl) : RL P L ef bk tq Q (.cons i l) N E w0 S I H :=
  RL.val ho hw rfl hN (fun a w ha hC => by
    have hA : w.heap[b]? = some (.cells cs.toArray C (0, 0)) := hC.s.h _ hm
    have := Go.Lib.run_to_unsafe w ⟨b, o, none⟩ hs hd ht hj (e := C) (cells := cs.length) (by simp [World.shape?, hA]) hc
    simp [execOp, ha.ev hx, this]) h rfl hq
theorem RL.fromUnsafeO {u C : TypeId} {jj : TypeInfo} {b o nn : Nat} {cs : List Value} (hs : P.underlying t = some .unsafePointer) (hd : P.underlying yt = some (.pointer u)) (hu : P.info? u = some jj) (hl : liesAt P P.depth C (nn / P.cellsOf C) o u 1 = true)
    (ho : nth L i = some ⟨some d, .convert t yt x, ty, pos, af, g⟩) (hw : wants L E ⟨some d, .convert t yt x, ty, pos, af, g⟩ = true) (hN : Nat.blt d N.n = true)
    (hx : E.ev x = some (.pointer (some ⟨b, o, none⟩))) (hm : PK.cel b cs C ∈ H) (hcl : cs.length = nn) (h : RL P L ef bk tq Q l N ((d, .pointer (some ⟨b, o, none⟩)) :: E) w0 S I H) (hq : tq.l.contains i = false := by rfl) : RL P L ef bk tq Q (.cons i l) N E w0 S I H :=
  RL.val ho hw rfl hN (fun a w ha hC => by
    have hA : w.heap[b]? = some (.cells cs.toArray C (0, 0)) := hC.s.h _ hm
    have := Go.Lib.run_from_unsafe w ⟨b, o, none⟩ hs hd hu (e := C) (cells := nn) (by simp [World.shape?, hA, hcl]) hl
    simp [execOp, ha.ev hx, this]) h rfl hq
end
end Go.PK
namespace Go.Proofs.YtpaemkemknfmfaaGreatDoor
open Go.PK
/-! ### strings.Builder, in a play -/
theorem bd_play : liesAt Tryz.prog Tryz.prog.depth 80 (5 / Tryz.prog.cellsOf 80) 3 78 1 = true := by kernel_rfl
theorem bd_info : ∃ j, Tryz.prog.info? 78 = some j ∧ j.size = 2 := by
  have h : (Tryz.prog.info? 78).map (·.size) = some 2 := by kernel_rfl
  exact Option.map_eq_some_iff.1 h
theorem noesc (v : Value) (w : World) : (callFunc 213 #[v]).run Tryz.prog w = .ok (.value v) w := by
  rw [run_callFunc_extern Tryz.func213 (by kernel_rfl) (by kernel_rfl) (by kernel_rfl) (e := Extern.AbiNoEscape.same) (by kernel_rfl)]
  rw [Go.Lib.run_noEscape]; rfl
abbrev me3 (b : Nat) : Option Addr := some ⟨b, 3, none⟩
theorem neq_self3 (x y : Operand) (b : Nat) (w : World) : (do eqGuard .neq 76 x y (.pointer (me3 b)) (.pointer (me3 b)); binOp .neq 76 (.pointer (me3 b)) (.pointer (me3 b)) : Sem Value).run Tryz.prog w = .ok (.bool false) w := by
  obtain ⟨j, hj, -⟩ := bd_info
  have h := Go.Lib.run_neq_ptr_same (P := Tryz.prog) w (tp := 76) ⟨b, 3, none⟩ Tryz.underlying76 hj
  simp [eqGuard, h]
abbrev plC (b : Nat) (x y z : Value) (p : Option Addr) (u : Value) : It := cel b [x, y, z, .pointer p, u] 80
theorem pcheck_any (b : Nat) (x y z : Value) (p : Option Addr) (hp : p = none ∨ p = me3 b) (v : Value) :
    Spc Tryz.prog 138 #[.pointer (me3 b)] [] [plC b x y z p v] (fun r I' H' => r = .tuple #[] ∧ I' = [] ∧ H' = [plC b x y z (me3 b) v]) := by
  obtain ⟨jj, hj, hjs⟩ := bd_info
  refine Spc.enter Tryz.func138 rfl rfl rfl (fun w0 hw0 => ?_)
  refine CW.seq (CW.rg (RL.p rfl (RL.p rfl (RL.fieldAddr fa_78_0 rfl rfl rfl rfl (RL.load Tryz.isAgg76 rfl rfl rfl rfl (Rd.get (by repeat (first | exact List.Mem.head _ | apply List.Mem.tail)) rfl) ?_)))))
  refine RL.cmp rfl rfl rfl rfl rfl (eql_ptr Tryz.runUnderlying76 _) (RL.nil (NQ.seq ?_))
  rcases hp with rfl | rfl
  ·
    refine CW.condT rfl (rfl) (CW.region (ef := [3, 7]) (bk := [7]) (RL.p rfl (RL.p rfl (RL.toUnsafeO (jj := jj) Tryz.underlying76 Tryz.underlying330 hj (by rw [hjs]; decide) rfl rfl rfl rfl (by repeat (first | exact List.Mem.head _ | apply List.Mem.tail)) (by simp) ?_))))
    refine RL.ext1 (noesc _) rfl rfl rfl rfl (RL.fromUnsafeO (jj := jj) Tryz.underlying330 Tryz.underlying76 hj bd_play rfl rfl rfl rfl (by repeat (first | exact List.Mem.head _ | apply List.Mem.tail)) (by rfl) ?_)
    refine RL.p rfl (RL.fieldAddr fa_78_0 rfl rfl rfl rfl (RL.store (vs := [_]) Tryz.sizeOf76 rfl rfl rfl rfl rfl rfl rfl rfl rfl (by repeat (first | exact Upd.here | apply Upd.there)) ?_))
    refine RL.nil ?_
    exact NQ.post (res0 rfl) (.keep .nil) ⟨rfl, rfl, rfl⟩
  ·
    refine CW.condF rfl (rfl) (CW.seq (CW.rg (RL.p rfl (RL.p rfl (RL.fieldAddr fa_78_0 rfl rfl rfl rfl (RL.load Tryz.isAgg76 rfl rfl rfl rfl (Rd.get (by repeat (first | exact List.Mem.head _ | apply List.Mem.tail)) rfl) ?_))))))
    refine RL.p rfl (RL.cmp rfl rfl rfl rfl rfl (fun w => neq_self3 _ _ b w) ?_)
    refine RL.nil (NQ.seq (CW.ok [19] rfl (CW.condF rfl (rfl) (CW.skip ?_))))
    exact NQ.post (res0 rfl) (.keep .nil) ⟨rfl, rfl, rfl⟩
theorem pwrite_any (b : Nat) (x y z : Value) (p : Option Addr) (hp : p = none ∨ p = me3 b) (ob : Option Nat) (cap n : Nat) (l s : Tx) (hm : n + s.length ≤ 1000000000) :
    Spc Tryz.prog 84 #[.pointer (me3 b), .string (txt s)] [] [plC b x y z p (slO ob n cap), own ob cap 5 1 n (bytes l)]
      (fun r I' H' => ∃ ob' cap', r = .tuple #[.int .i64 (s.length : Int), .nilIface] ∧ I' = [] ∧ H' = [plC b x y z (me3 b) (slO ob' (n + s.length) cap'), own ob' cap' 5 1 (n + s.length) (bytes (l ++ s))] ∧ (n + s.length = 0 ∨ ob'.isSome = true)) := by
  refine Spc.enter Tryz.func84 rfl rfl rfl (fun w0 hw0 => ?_)
  refine CW.seq (CW.rg (RL.p rfl (RL.p rfl (RL.nil (NQ.seq (CW.seq (CW.region (ef := [1]) (bk := [1]) (RL.p rfl (RL.callq (pcheck_any b x y z p hp (slO ob n cap)) Tryz.call138 rfl rfl rfl rfl rfl (.inr rfl) ?_)))))))))
  rintro _ _ _ ⟨rfl, rfl, rfl⟩
  refine RL.nil (NQ.seq (CW.seq (CW.region (ef := [6, 9]) (bk := [6, 9]) (RL.p rfl (RL.p rfl (RL.p rfl (RL.fieldAddr fa_78_1 rfl rfl rfl rfl (RL.load Tryz.isAgg43 rfl rfl rfl rfl (Rd.get (by repeat (first | exact List.Mem.head _ | apply List.Mem.tail)) rfl) ?_))))))))
  refine RL.p rfl (RL.appendS el_43 Tryz.underlying9 rfl rfl rfl rfl rfl rfl rfl (by repeat (first | exact Pick.nil | apply Pick.take | apply Pick.leave)) rfl hm ?_)
  intro ob1 cap1 ho1
  refine RL.p rfl (RL.fieldAddr fa_78_1 rfl rfl rfl rfl (RL.store (vs := [_]) Tryz.sizeOf43 rfl rfl rfl rfl rfl rfl rfl rfl rfl (by repeat (first | exact Upd.here | apply Upd.there)) ?_))
  refine RL.nil (NQ.seq (CW.ok [1] rfl (CW.seq (CW.rg (RL.p rfl (RL.lenTxt Tryz.runUnderlying9 rfl rfl rfl rfl (RL.p rfl (RL.p rfl (RL.nil (NQ.seq (CW.ret (RQ.rea (H' := [plC b x y z (me3 b) (slO ob1 (n + s.length) cap1), own ob1 cap1 5 1 (n + s.length) (bytes l ++ s.map U8)]) (fun _ h => h) (by repeat (first | exact Rea.nil | (apply Rea.cons; (solve | (repeat (first | exact Del.here | apply Del.there)))))) ?_))))))))))))
  refine RQ.post (res2 rfl rfl rfl) (.keep (.keep .nil)) ⟨ob1, cap1, rfl, rfl, ?_, ho1⟩
  simp
theorem pstr_any (b : Nat) (x y z : Value) (p : Option Addr) (ob : Nat) (cap n : Nat) (l : Tx) (hn : l.length = n) (h0 : 0 < n) (hm : n ≤ 1000000000) :
    Spc Tryz.prog 30 #[.pointer (me3 b)] [] [plC b x y z p (slO (some ob) n cap), own (some ob) cap 5 1 n (bytes l)] (fun r I' H' => r = .string (txt l) ∧ I' = [] ∧ H' = [plC b x y z p (slO (some ob) n cap)]) := by
  refine Spc.enter Tryz.func30 rfl rfl rfl (fun w0 hw0 => ?_)
  refine CW.seq (CW.rg (RL.p rfl (RL.nil (NQ.seq (CW.seq (CW.regionD (Sq.of [0, 1, 2, 3, 4, 5, 6, 7, 8, 9, 10, 11]) [10] [10] [0, 1, 2, 5, 6, 7, 9, 11] mixed (by kernel_rfl) ?_))))))
  refine RL.p rfl (RL.p rfl (RL.fieldAddr fa_78_1 rfl rfl rfl rfl (RL.load Tryz.isAgg43 rfl rfl rfl rfl (Rd.get (by repeat (first | exact List.Mem.head _ | apply List.Mem.tail)) rfl) ?_)))
  refine RL.sliceData rfl rfl rfl rfl (by repeat (first | exact List.Mem.head _ | apply List.Mem.tail)) h0 ?_
  refine RL.p rfl (RL.p rfl (RL.fieldAddr fa_78_1 rfl rfl rfl rfl (RL.load Tryz.isAgg43 rfl rfl rfl rfl (Rd.get (by repeat (first | exact List.Mem.head _ | apply List.Mem.tail)) rfl) ?_)))
  refine RL.lenS Tryz.runUnderlying43 rfl rfl rfl rfl (RL.unsafeStr (e := 5) Tryz.underlying119 (by kernel_rfl) rfl rfl rfl rfl rfl rfl rfl (by repeat (first | exact Pick.nil | apply Pick.take | apply Pick.leave)) hn h0 hm ?_)
  refine RL.p rfl (RL.nil (NQ.seq (CW.ok [2] rfl (CW.ret ?_))))
  exact RQ.post (res1 rfl rfl) (.keep .nil) ⟨rfl, rfl, rfl⟩
end Go.Proofs.YtpaemkemknfmfaaGreatDoor
