import Derived.Test.YtggmnhogmjglmaaFr0
namespace Go.Proofs.Ytggmnhogmjglmaa
open Go.PK

theorem tag_eq (l1 l2 : List B8) (h1 : l1.length = 16) (h2 : l2.length = 16) (x y : Operand) (w : World) : (do eqGuard .eql 32 x y (.agg (bytes l1).toArray) (.agg (bytes l2).toArray); binOp .eql 32 (.agg (bytes l1).toArray) (.agg (bytes l2).toArray) : Sem Value).run Try.prog w = .ok (.bool (l1 == l2)) w :=
  eql_arr8 (e := 5) (by kernel_rfl) (ii := Try.t5) (by kernel_rfl) (by kernel_rfl) Try.isAgg5 Try.runUnderlying5 (by kernel_rfl) l1 l2 h1 h2 w
theorem frsame_refl (f : Fr) (p q : Option Addr) (n m c d : Nat) (hf : f.Ok) : Spc Try.prog 25 #[.agg (f.cells (.slice p n c)).toArray, .agg (f.cells (.slice q m d)).toArray] [sls p 1 n (bytes f.b), sls q 1 m (bytes f.b)] [] (Is (.bool true)) := by
  have hl := fr_len hf.tag (.slice p n c)
  have hlt : (bytes f.tag).length = 16 := by rw [List.length_map, hf.tag]
  have ht := hf.tag
  refine Spc.enter Try.func25 rfl rfl rfl (fun w0 hw0 => ?_)
  refine CW.seq ?_
  refine CW.region (ef := [0, 1]) (bk := []) ?_
  refine RL.box rfl rfl rfl rfl rfl rfl ?_
  intro b1
  refine RL.box rfl rfl rfl rfl rfl rfl ?_
  intro b2
  refine RL.assign rfl rfl rfl rfl ?_
  refine RL.nil ?_
  refine NQ.seq ?_
  refine CW.seq ?_
  refine CW.freezeP (A := [_, _]) (B := []) (.take (.take .nil)) rfl ?_
  have f1 : RdsN [cel b2 (f.cells (.slice q m d)) 34, cel b1 (f.cells (.slice p n c)) 34, sls p 1 n (bytes f.b), sls q 1 m (bytes f.b)] ⟨b1, 0 + 5, none⟩ 16 (bytes f.tag) := RdsN.told (by repeat (first | exact List.Mem.head _ | apply List.Mem.tail)) (fr_tag f _) hlt
  have f2 : RdsN [cel b2 (f.cells (.slice q m d)) 34, cel b1 (f.cells (.slice p n c)) 34, sls p 1 n (bytes f.b), sls q 1 m (bytes f.b)] ⟨b2, 0 + 5, none⟩ 16 (bytes f.tag) := RdsN.told (by repeat (first | exact List.Mem.head _ | apply List.Mem.tail)) (fr_tag f _) hlt
  refine CW.region (ef := []) (bk := []) ?_
  refine RL.fieldAddr fa_34_0 rfl rfl rfl rfl ?_
  refine RL.loadq Try.isAgg3 rfl rfl rfl rfl ?_
  refine RL.fieldAddr fa_34_0 rfl rfl rfl rfl ?_
  refine RL.loadq Try.isAgg3 rfl rfl rfl rfl ?_
  refine RL.bin rfl rfl rfl rfl rfl rfl ?_
  refine RL.move rfl rfl rfl rfl ?_
  refine RL.cast (d := 10) (v' := .bool true) rfl ((by simp)) ?_
  refine RL.fieldAddr fa_34_1 rfl rfl rfl rfl ?_
  refine RL.loadq Try.isAgg3 rfl rfl rfl rfl ?_
  refine RL.fieldAddr fa_34_1 rfl rfl rfl rfl ?_
  refine RL.loadq Try.isAgg3 rfl rfl rfl rfl ?_
  refine RL.bin rfl rfl rfl rfl rfl rfl ?_
  refine RL.pickT rfl rfl rfl rfl rfl ?_
  refine RL.move rfl rfl rfl rfl ?_
  refine RL.cast (d := 17) (v' := .bool true) rfl ((by simp)) ?_
  refine RL.fieldAddr fa_34_2 rfl rfl rfl rfl ?_
  refine RL.loadq Try.isAgg26 rfl rfl rfl rfl ?_
  refine RL.fieldAddr fa_34_2 rfl rfl rfl rfl ?_
  refine RL.loadq Try.isAgg26 rfl rfl rfl rfl ?_
  refine RL.bin rfl rfl rfl rfl rfl rfl ?_
  refine RL.pickT rfl rfl rfl rfl rfl ?_
  refine RL.move rfl rfl rfl rfl ?_
  refine RL.cast (d := 24) (v' := .bool true) rfl ((by simp)) ?_
  refine RL.fieldAddr fa_34_3 rfl rfl rfl rfl ?_
  refine RL.loadq Try.isAgg29 rfl rfl rfl rfl ?_
  refine RL.fieldAddr fa_34_3 rfl rfl rfl rfl ?_
  refine RL.loadq Try.isAgg29 rfl rfl rfl rfl ?_
  refine RL.bin rfl rfl rfl rfl rfl rfl ?_
  refine RL.pickT rfl rfl rfl rfl rfl ?_
  refine RL.move rfl rfl rfl rfl ?_
  refine RL.cast (d := 31) (v' := .bool true) rfl ((by simp)) ?_
  refine RL.fieldAddr fa_34_4 rfl rfl rfl rfl ?_
  refine RL.loadq Try.isAgg30 rfl rfl rfl rfl ?_
  refine RL.bytesStr (bs := f.b) (e := 5) (by kernel_rfl) (by kernel_rfl) (by kernel_rfl) rfl rfl rfl rfl (Src.sls (by repeat (first | exact List.Mem.head _ | apply List.Mem.tail))) ?_
  refine RL.fieldAddr fa_34_4 rfl rfl rfl rfl ?_
  refine RL.loadq Try.isAgg30 rfl rfl rfl rfl ?_
  refine RL.bytesStr (bs := f.b) (e := 5) (by kernel_rfl) (by kernel_rfl) (by kernel_rfl) rfl rfl rfl rfl (Src.sls (by repeat (first | exact List.Mem.head _ | apply List.Mem.tail))) ?_
  refine RL.cmp rfl rfl rfl rfl rfl (eql_txt f.b f.b) ?_
  refine RL.pickT rfl rfl rfl rfl rfl ?_
  refine RL.move rfl rfl rfl rfl ?_
  refine RL.cast (d := 40) (v' := .bool true) rfl ((by simp)) ?_
  refine RL.fieldAddr fa_34_5 rfl rfl rfl rfl ?_
  first | refine RL.loadM Try.isAgg32 Try.sizeOf32 rfl rfl rfl rfl (by assumption) ?_ | refine RL.loadA Try.isAgg32 Try.sizeOf32 rfl rfl rfl rfl (by first | assumption | (apply RdsI.rds; assumption)) (by first | rfl | assumption | (simp only [List.length_map]; assumption) | (simp only [List.length_map, List.length_replicate, ht]; done) | (simp; done)) ?_ | refine RL.loadW Try.isAgg32 Try.sizeOf32 rfl rfl rfl rfl (by (solve | (repeat (first | exact List.Mem.head _ | apply List.Mem.tail)))) (by first | rfl | assumption | (simp only [List.length_map]; assumption) | (simp only [List.length_map, List.length_replicate, ht]; done) | (simp; done)) ?_
  refine RL.fieldAddr fa_34_5 rfl rfl rfl rfl ?_
  first | refine RL.loadM Try.isAgg32 Try.sizeOf32 rfl rfl rfl rfl (by assumption) ?_ | refine RL.loadA Try.isAgg32 Try.sizeOf32 rfl rfl rfl rfl (by first | assumption | (apply RdsI.rds; assumption)) (by first | rfl | assumption | (simp only [List.length_map]; assumption) | (simp only [List.length_map, List.length_replicate, ht]; done) | (simp; done)) ?_ | refine RL.loadW Try.isAgg32 Try.sizeOf32 rfl rfl rfl rfl (by (solve | (repeat (first | exact List.Mem.head _ | apply List.Mem.tail)))) (by first | rfl | assumption | (simp only [List.length_map]; assumption) | (simp only [List.length_map, List.length_replicate, ht]; done) | (simp; done)) ?_
  refine RL.cmp rfl rfl rfl rfl rfl (tag_eq _ _ ht ht _ _) ?_
  refine RL.pickT rfl rfl rfl rfl rfl ?_
  refine RL.assign rfl rfl rfl rfl ?_
  refine RL.nil ?_
  refine NQ.seq ?_
  refine CW.only (.cons (k := 4) rfl .nil) ?_
  refine CW.ret ?_
  exact RQ.post (res1 rfl rfl) (Split.none _) ⟨by simp, rfl, rfl⟩
end Go.Proofs.Ytggmnhogmjglmaa
