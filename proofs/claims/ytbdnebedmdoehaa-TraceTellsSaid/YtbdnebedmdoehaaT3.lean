import Derived.Test.YtbdnebedmdoehaaT2
namespace Go.Proofs.Ytbdnebedmdoehaa
open Go.PK

/-- A recorder's cells: its ring (where it lies, how great, its first, how many), the heads, how many came. -/
def recP (lb m f n : Nat) (fr hd : List B8) (c : Nat) : List Value := [.slice (some ⟨lb, 0, none⟩) m m, .int .i64 (f : Int), .int .i64 (n : Int)] ++ (bytes fr ++ (bytes hd ++ [.int .i64 (c : Int)]))
abbrev entsV (l : List Ent) : List Value := l.flatMap Ent.cells
theorem ent_len (l : List Ent) : ∀ a ∈ l, (Ent.cells a).length = 4 := fun _ _ => rfl
theorem ents_len (l : List Ent) : (entsV l).length = l.length * 4 := length_flat (ent_len l)
theorem ent_at {l : List Ent} {q : Nat} {x : Ent} (h : l[q]? = some x) : ∀ (j : Nat) (u : Value), x.cells[j]? = some u → (entsV l)[0 + q * 4 + j]? = some u := fun j u hj => by
  have hlt : j < 4 := (List.getElem?_eq_some_iff.1 hj).1
  rw [Nat.zero_add, get_flat (ent_len l) h hlt]; exact hj

theorem spl_nil : ∀ l : List Value, spl l 0 [] = l
  | [] => rfl
  | _ :: _ => rfl
theorem tis_nil : Spc Try.prog 99 #[.pointer none] [] [] (Is (.bool false)) := by
  refine Spc.enter Try.func99 rfl rfl rfl (fun w0 hw0 => ?_)
  refine CW.seq (CW.rg (RL.p rfl (RL.nil (NQ.seq (CW.seq (CW.rg (RL.p rfl (RL.cmp rfl rfl rfl rfl rfl (neq_ptr Try.runUnderlying151 _) (RL.p rfl (RL.p rfl (RL.p rfl (RL.p rfl (RL.p rfl ?_)))))))))))))
  refine RL.p rfl (RL.p rfl (RL.p rfl (RL.p rfl (RL.p rfl (RL.nil (NQ.seq (CW.ok [2] rfl (CW.ret ?_))))))))
  exact RQ.post (res1 rfl rfl) (Split.none _) ⟨rfl, rfl, rfl⟩
theorem tis_yes (r lb m : Nat) (rest : List Value) (T : TypeId) (hm : 0 < m) : Spc Try.prog 99 #[.pointer (some ⟨r, 0, none⟩)] [cel r (.slice (some ⟨lb, 0, none⟩) m m :: rest) T] [] (Is (.bool true)) := by
  refine Spc.enter Try.func99 rfl rfl rfl (fun w0 hw0 => ?_)
  refine CW.seq (CW.rg (RL.p rfl (RL.nil (NQ.seq (CW.seq (CW.rg (RL.p rfl (RL.cmp rfl rfl rfl rfl rfl (neq_ptr Try.runUnderlying151 _) (RL.p rfl (RL.p rfl (RL.p rfl (RL.fieldAddr fa_224_0 rfl rfl rfl rfl (RL.fieldAddr fa_222_0 rfl rfl rfl rfl ?_)))))))))))))
  refine RL.loadq Try.isAgg79 rfl rfl rfl rfl ?_
  refine RL.lenS Try.runUnderlying79 rfl rfl rfl rfl (RL.p rfl (RL.p rfl (RL.p rfl (RL.nil (NQ.seq (CW.ok [2] rfl (CW.ret ?_)))))))
  exact RQ.post (res1 rfl rfl) (Split.none _) ⟨by simp; omega, rfl, rfl⟩
theorem at_any (r lb m f k : Nat) (rest : List Value) (T : TypeId) (hm : 0 < m) (hf : f ≤ 1000000000) (hk : k ≤ 1000000000) : Spc Try.prog 100 #[.pointer (some ⟨r, 0, none⟩), .int .i64 (k : Int)] [cel r (.slice (some ⟨lb, 0, none⟩) m m :: .int .i64 (f : Int) :: rest) T] [] (Is (.pointer (some ⟨lb, 0 + (f + k) % m * 4, none⟩))) := by
  have hlt := Nat.mod_lt (f + k) hm
  refine Spc.enter Try.func100 rfl rfl rfl (fun w0 hw0 => ?_)
  refine CW.seq (CW.rg (RL.p rfl (RL.nil (NQ.seq (CW.seq (CW.regionD (Sq.of [0, 1, 2, 3, 4, 5, 6, 7, 8, 9, 10, 11, 12, 13, 14, 15, 16, 17]) [] [] [0, 1, 2, 4, 5, 6, 8, 9, 10, 11, 12, 14, 15, 16, 17] mixed (by kernel_rfl) ?_))))))
  refine RL.p rfl (RL.p rfl (RL.fieldAddr fa_222_0 rfl rfl rfl rfl (RL.loadq Try.isAgg79 rfl rfl rfl rfl ?_)))
  refine RL.p rfl (RL.p rfl (RL.fieldAddr fa_222_1 rfl rfl rfl rfl (RL.loadq Try.isAgg3 rfl rfl rfl rfl ?_)))
  refine RL.p rfl (RL.bx rfl (wrapV_i64 (by omega) (by omega)) ?_)
  refine RL.p rfl (RL.p rfl (RL.fieldAddr fa_222_0 rfl rfl rfl rfl (RL.loadq Try.isAgg79 rfl rfl rfl rfl ?_)))
  refine RL.lenS Try.runUnderlying79 rfl rfl rfl rfl (RL.remX (v' := .int .i64 (((f + k) % m : Nat) : Int)) rfl rfl rfl rfl rfl (by omega) (by rw [← tmodA]; rfl) ?_)
  refine RL.idxAt (j := (f + k) % m) Try.runUnderlying79 Try.sizeOf83 rfl rfl rfl rfl rfl rfl hlt (RL.p rfl (RL.nil (NQ.seq (CW.ok [4] rfl (CW.ret ?_)))))
  exact RQ.post (res1 rfl rfl) (Split.none _) ⟨rfl, rfl, rfl⟩
theorem drop_any (r lb m f n : Nat) (rest : List Value) (T : TypeId) (hm : 0 < m) (hf : f ≤ 1000000000) (hn : 0 < n) (hn2 : n ≤ 1000000000) :
    Spc Try.prog 101 #[.pointer (some ⟨r, 0, none⟩)] [] [cel r (.slice (some ⟨lb, 0, none⟩) m m :: .int .i64 (f : Int) :: .int .i64 (n : Int) :: rest) T]
      (fun _ I' H' => I' = [] ∧ H' = [cel r (.slice (some ⟨lb, 0, none⟩) m m :: .int .i64 (((f + 1) % m : Nat) : Int) :: .int .i64 ((n - 1 : Nat) : Int) :: rest) T]) := by
  refine Spc.enter Try.func101 rfl rfl rfl (fun w0 hw0 => ?_)
  refine CW.seq (CW.regionD (Sq.of [0, 1, 2, 3, 4, 5, 6, 7, 8, 9, 10, 11, 12, 13, 14]) [14] [14] [0, 1, 2, 3, 5, 6, 7, 8, 10, 11, 12, 13] mixed (by kernel_rfl) ?_)
  refine RL.p rfl (RL.p rfl (RL.p rfl (RL.fieldAddr fa_222_1 rfl rfl rfl rfl (RL.loadq Try.isAgg3 rfl rfl rfl rfl ?_))))
  refine RL.bx rfl (wrapV_i64 (by omega) (by omega)) ?_
  refine RL.p rfl (RL.p rfl (RL.fieldAddr fa_222_0 rfl rfl rfl rfl (RL.loadq Try.isAgg79 rfl rfl rfl rfl ?_)))
  refine RL.lenS Try.runUnderlying79 rfl rfl rfl rfl (RL.remX (v' := .int .i64 (((f + 1) % m : Nat) : Int)) rfl rfl rfl rfl rfl (by omega) (by rw [← tmodA]; rfl) ?_)
  refine RL.p rfl (RL.fieldAddr fa_222_1 rfl rfl rfl rfl (RL.storeX (vs := [_]) (cs := .slice (some ⟨lb, 0, none⟩) m m :: .int .i64 (f : Int) :: .int .i64 (n : Int) :: rest) (cs' := .slice (some ⟨lb, 0, none⟩) m m :: .int .i64 (((f + 1) % m : Nat) : Int) :: .int .i64 (n : Int) :: rest) (by simp [spl, spl_nil]) Try.sizeOf3 rfl rfl rfl rfl rfl rfl rfl rfl (by repeat (first | exact Upd.here | apply Upd.there)) (by simp) ?_))
  refine RL.nil (NQ.seq (CW.ok [0] rfl (CW.region (ef := [7]) (bk := [7]) (RL.p rfl (RL.p rfl (RL.fieldAddr fa_222_2 rfl rfl rfl rfl (RL.loadq Try.isAgg3 rfl rfl rfl rfl ?_)))))))
  refine RL.bx rfl (wrapV_i64 (by omega) (by omega)) ?_
  refine RL.p rfl (RL.fieldAddr fa_222_2 rfl rfl rfl rfl (RL.storeX (vs := [.int .i64 ((n : Int) - 1)]) (cs := .slice (some ⟨lb, 0, none⟩) m m :: .int .i64 (((f + 1) % m : Nat) : Int) :: .int .i64 (n : Int) :: rest) (cs' := .slice (some ⟨lb, 0, none⟩) m m :: .int .i64 (((f + 1) % m : Nat) : Int) :: .int .i64 ((n - 1 : Nat) : Int) :: rest) (by rw [show ((n : Int) - 1) = ((n - 1 : Nat) : Int) by omega]; simp [spl, spl_nil]) Try.sizeOf3 rfl rfl rfl rfl rfl rfl rfl rfl (by repeat (first | exact Upd.here | apply Upd.there)) (by simp) ?_))
  refine RL.nil ?_
  exact NQ.post (res0 rfl) (.keep .nil) ⟨rfl, rfl⟩
theorem push_any (r lb m f n : Nat) (rest : List Value) (T U : TypeId) (rg : List Ent) (x : Ent) (hm : 0 < m) (hf : f ≤ 1000000000) (hn : n ≤ 1000000000) (hl : rg.length = m) :
    Spc Try.prog 102 #[.pointer (some ⟨r, 0, none⟩), .agg x.cells.toArray] [] [cel r (.slice (some ⟨lb, 0, none⟩) m m :: .int .i64 (f : Int) :: .int .i64 (n : Int) :: rest) T, cel lb (entsV rg) U]
      (fun _ I' H' => I' = [] ∧ H' = [cel r (.slice (some ⟨lb, 0, none⟩) m m :: .int .i64 (f : Int) :: .int .i64 ((n + 1 : Nat) : Int) :: rest) T, cel lb (entsV (rg.set ((f + n) % m) x)) U]) := by
  have hlt := Nat.mod_lt (f + n) hm
  refine Spc.enter Try.func102 rfl rfl rfl (fun w0 hw0 => ?_)
  refine CW.seq (CW.region (ef := [0]) (bk := []) (RL.box rfl rfl rfl rfl rfl rfl ?_))
  intro b1
  refine RL.nil (NQ.seq (CW.seq (CW.regionD (Sq.of [0, 1, 2, 3, 4, 5, 6, 7, 8]) [8] [8] [0, 1, 2, 3, 7] mixed (by kernel_rfl) ?_)))
  refine RL.p rfl (RL.p rfl (RL.p rfl (RL.fieldAddr fa_222_2 rfl rfl rfl rfl (RL.loadq Try.isAgg3 rfl rfl rfl rfl ?_))))
  refine RL.callvq (at_any r lb m f n (.int .i64 (n : Int) :: rest) T hm hf hn) Try.call100 rfl rfl rfl rfl ?_
  refine RL.loadN (vs := [_, _, _, _]) Try.isAgg83 Try.sizeOf83 rfl rfl rfl rfl (by first | (apply Rds.cel; (solve | (repeat (first | exact List.Mem.head _ | apply List.Mem.tail))); exact at_spec ⟨rfl, rfl, rfl, rfl, trivial⟩) | (apply Rds.celI; (solve | (repeat (first | exact List.Mem.head _ | apply List.Mem.tail))); exact at_spec ⟨rfl, rfl, rfl, rfl, trivial⟩) | assumption | (apply RdsI.rds; assumption)) ?_
  refine RL.p rfl (RL.storeX (vs := x.cells) (cs' := entsV (rg.set ((f + n) % m) x)) (by rw [Nat.zero_add]; exact spl_flat x (ent_len rg) rfl (by omega)) Try.sizeOf83 rfl rfl rfl rfl rfl rfl rfl rfl (by repeat (first | exact Upd.here | apply Upd.there)) (by rw [ents_len, hl]; show 0 + (f + n) % m * 4 + 4 ≤ m * 4; omega) ?_)
  refine RL.nil (NQ.seq (CW.ok [0] rfl (CW.region (ef := [7]) (bk := [7]) (RL.p rfl (RL.p rfl (RL.fieldAddr fa_222_2 rfl rfl rfl rfl (RL.loadq Try.isAgg3 rfl rfl rfl rfl ?_)))))))
  refine RL.bx rfl (wrapV_i64 (by omega) (by omega)) ?_
  refine RL.p rfl (RL.fieldAddr fa_222_2 rfl rfl rfl rfl (RL.storeX (vs := [_]) (cs := .slice (some ⟨lb, 0, none⟩) m m :: .int .i64 (f : Int) :: .int .i64 (n : Int) :: rest) (cs' := .slice (some ⟨lb, 0, none⟩) m m :: .int .i64 (f : Int) :: .int .i64 ((n + 1 : Nat) : Int) :: rest) (by simp [spl, spl_nil]) Try.sizeOf3 rfl rfl rfl rfl rfl rfl rfl rfl (by repeat (first | exact Upd.here | apply Upd.there)) (by simp) ?_))
  refine RL.nil ?_
  exact NQ.post (res0 rfl) (.drop (.keep (.keep .nil))) ⟨rfl, rfl⟩
end Go.Proofs.Ytbdnebedmdoehaa
