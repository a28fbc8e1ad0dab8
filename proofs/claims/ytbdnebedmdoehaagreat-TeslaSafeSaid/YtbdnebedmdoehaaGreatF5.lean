import Derived.Test.YtbdnebedmdoehaaGreatFr0
namespace Go.Proofs.YtbdnebedmdoehaaGreat
open Go.PK

theorem tag_eq (l1 l2 : List B8) (h1 : l1.length = 16) (h2 : l2.length = 16) (x y : Operand) (w : World) : (do eqGuard .eql 28 x y (.agg (bytes l1).toArray) (.agg (bytes l2).toArray); binOp .eql 28 (.agg (bytes l1).toArray) (.agg (bytes l2).toArray) : Sem Value).run Tryz.prog w = .ok (.bool (l1 == l2)) w :=
  eql_arr8 (e := 5) (by kernel_rfl) (ii := Tryz.t5) (by kernel_rfl) (by kernel_rfl) Tryz.isAgg5 Tryz.runUnderlying5 (by kernel_rfl) l1 l2 h1 h2 w
theorem frsame_refl (f : Fr) (p q : Option Addr) (n m c d : Nat) (hf : f.Ok) : Spc Tryz.prog 9 #[.agg (f.cells (.slice p n c)).toArray, .agg (f.cells (.slice q m d)).toArray] [sls p 1 n (bytes f.b), sls q 1 m (bytes f.b)] [] (Is (.bool true)) := by
  have hl := fr_len hf.tag (.slice p n c)
  have hlt : (bytes f.tag).length = 16 := by rw [List.length_map, hf.tag]
  have ht := hf.tag
  refine Spc.enter Tryz.func9 rfl rfl rfl (fun w0 hw0 => ?_)
  refine CW.seq (CW.region (ef := [0, 1]) (bk := []) (RL.box rfl rfl rfl rfl rfl rfl ?_))
  intro b1
  refine RL.box rfl rfl rfl rfl rfl rfl ?_
  intro b2
  refine RL.p rfl (RL.nil (NQ.seq (CW.seq (CW.freezeP (A := [_, _]) (B := []) (.take (.take .nil)) rfl ?_))))
  have f1 : RdsN [cel b2 (f.cells (.slice q m d)) 30, cel b1 (f.cells (.slice p n c)) 30, sls p 1 n (bytes f.b), sls q 1 m (bytes f.b)] ⟨b1, 0 + 5, none⟩ 16 (bytes f.tag) := RdsN.told (by repeat (first | exact List.Mem.head _ | apply List.Mem.tail)) (fr_tag f _) hlt
  have f2 : RdsN [cel b2 (f.cells (.slice q m d)) 30, cel b1 (f.cells (.slice p n c)) 30, sls p 1 n (bytes f.b), sls q 1 m (bytes f.b)] ⟨b2, 0 + 5, none⟩ 16 (bytes f.tag) := RdsN.told (by repeat (first | exact List.Mem.head _ | apply List.Mem.tail)) (fr_tag f _) hlt
  refine CW.rg (RL.fieldAddr fa_30_0 rfl rfl rfl rfl (RL.loadq Tryz.isAgg3 rfl rfl rfl rfl ?_))
  refine RL.fieldAddr fa_30_0 rfl rfl rfl rfl (RL.loadq Tryz.isAgg3 rfl rfl rfl rfl ?_)
  refine RL.p rfl (RL.p rfl (RL.cast (d := 10) (v' := .bool true) rfl ((by simp)) ?_))
  refine RL.fieldAddr fa_30_1 rfl rfl rfl rfl (RL.loadq Tryz.isAgg3 rfl rfl rfl rfl ?_)
  refine RL.fieldAddr fa_30_1 rfl rfl rfl rfl (RL.loadq Tryz.isAgg3 rfl rfl rfl rfl ?_)
  refine RL.p rfl (RL.p rfl (RL.p rfl (RL.cast (d := 17) (v' := .bool true) rfl ((by simp)) ?_)))
  refine RL.fieldAddr fa_30_2 rfl rfl rfl rfl (RL.loadq Tryz.isAgg24 rfl rfl rfl rfl ?_)
  refine RL.fieldAddr fa_30_2 rfl rfl rfl rfl (RL.loadq Tryz.isAgg24 rfl rfl rfl rfl ?_)
  refine RL.p rfl (RL.p rfl (RL.p rfl (RL.cast (d := 24) (v' := .bool true) rfl ((by simp)) ?_)))
  refine RL.fieldAddr fa_30_3 rfl rfl rfl rfl (RL.loadq Tryz.isAgg25 rfl rfl rfl rfl ?_)
  refine RL.fieldAddr fa_30_3 rfl rfl rfl rfl (RL.loadq Tryz.isAgg25 rfl rfl rfl rfl ?_)
  refine RL.p rfl (RL.p rfl (RL.p rfl (RL.cast (d := 31) (v' := .bool true) rfl ((by simp)) ?_)))
  refine RL.fieldAddr fa_30_4 rfl rfl rfl rfl (RL.loadq Tryz.isAgg26 rfl rfl rfl rfl ?_)
  refine RL.bytesStr (bs := f.b) (e := 5) (by kernel_rfl) (by kernel_rfl) (by kernel_rfl) rfl rfl rfl rfl (Src.sls (by repeat (first | exact List.Mem.head _ | apply List.Mem.tail))) ?_
  refine RL.fieldAddr fa_30_4 rfl rfl rfl rfl (RL.loadq Tryz.isAgg26 rfl rfl rfl rfl ?_)
  refine RL.bytesStr (bs := f.b) (e := 5) (by kernel_rfl) (by kernel_rfl) (by kernel_rfl) rfl rfl rfl rfl (Src.sls (by repeat (first | exact List.Mem.head _ | apply List.Mem.tail))) ?_
  refine RL.cmp rfl rfl rfl rfl rfl (eql_txt f.b f.b) (RL.p rfl (RL.p rfl (RL.cast (d := 40) (v' := .bool true) rfl ((by simp)) ?_)))
  refine RL.fieldAddr fa_30_5 rfl rfl rfl rfl (RL.loadSq Tryz.isAgg28 Tryz.sizeOf28 rfl rfl rfl rfl ?_)
  refine RL.fieldAddr fa_30_5 rfl rfl rfl rfl (RL.loadSq Tryz.isAgg28 Tryz.sizeOf28 rfl rfl rfl rfl ?_)
  refine RL.cmp rfl rfl rfl rfl rfl (tag_eq _ _ ht ht _ _) (RL.p rfl (RL.p rfl (RL.nil (NQ.seq (CW.ok [4] rfl (CW.ret ?_))))))
  exact RQ.post (res1 rfl rfl) (Split.none _) ⟨by simp, rfl, rfl⟩
end Go.Proofs.YtbdnebedmdoehaaGreat
