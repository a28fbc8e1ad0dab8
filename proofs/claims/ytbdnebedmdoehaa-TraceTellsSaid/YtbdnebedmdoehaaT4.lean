import Derived.Test.YtbdnebedmdoehaaT3
namespace Go.Proofs.Ytbdnebedmdoehaa
open Go.PK

def recCells (lb m f n : Nat) (fr hd : List B8) (c : Nat) : List Value := .slice (some ⟨lb, 0, none⟩) m m :: .int .i64 (f : Int) :: .int .i64 (n : Int) :: (bytes fr ++ (bytes hd ++ [.int .i64 (c : Int)]))
abbrev recIt (r lb m f n : Nat) (fr hd : List B8) (c : Nat) : It := cel r (recCells lb m f n fr hd c) 224
abbrev rgIt (lb : Nat) (rg : List Ent) : It := cel lb (entsV rg) 83
theorem rec_count {lb m f n : Nat} {fr hd : List B8} {c : Nat} (h1 : fr.length = 32) (h2 : hd.length = 32) : (recCells lb m f n fr hd c)[0 + 67]? = some (.int .i64 (c : Int)) := by
  unfold recCells
  simp [List.getElem?_cons, List.getElem?_append, h1, h2]
theorem add_no (r lb m f n : Nat) (fr hd : List B8) (c : Nat) (rg : List Ent) (x : Ent) (hm : 0 < m) (h1 : fr.length = 32) (h2 : hd.length = 32) (hx : x.ok = false) :
    Spc Try.prog 69 #[.pointer (some ⟨r, 0, none⟩), .agg x.cells.toArray] [] [recIt r lb m f n fr hd c, rgIt lb rg]
      (fun v I' H' => v = .int .i64 2 ∧ I' = [] ∧ H' = [recIt r lb m f n fr hd c, rgIt lb rg]) := by
  refine Spc.enter Try.func69 rfl rfl rfl (fun w0 hw0 => ?_)
  refine CW.seq (CW.region (ef := [0]) (bk := []) (RL.box rfl rfl rfl rfl rfl rfl ?_))
  intro b1
  refine RL.p rfl (RL.nil (NQ.seq (CW.seq (CW.seq (CW.rg (RL.p rfl (RL.callvq (tis_yes r lb m _ 224 hm) Try.call99 rfl rfl rfl rfl ?_)))))))
  refine RL.p rfl (RL.nil (NQ.seq (CW.condF rfl (rfl) (CW.skip (NQ.seq (CW.seq (CW.regionD (Sq.of [0, 1, 2, 3, 4, 5, 6, 7, 8, 9, 10, 11]) [9, 10] [10] [0, 1, 2, 6, 7, 8, 11] mixed (by kernel_rfl) ?_)))))))
  refine RL.p rfl (RL.p rfl (RL.fieldAddr fa_224_2 rfl rfl rfl rfl (RL.loadSeg ([.slice (some ⟨lb, 0, none⟩) m m, .int .i64 (f : Int), .int .i64 (n : Int)] ++ bytes fr) (bytes hd) [.int .i64 (c : Int)] Try.isAgg78 Try.sizeOf78 rfl rfl rfl rfl (by repeat (first | exact List.Mem.head _ | apply List.Mem.tail)) (by simp [recCells]) (by simp [h1]) (by simp [h2]) ?_)))
  refine RL.loadN (vs := [_, _, _, _]) Try.isAgg83 Try.sizeOf83 rfl rfl rfl rfl (by first | (apply Rds.cel; (solve | (repeat (first | exact List.Mem.head _ | apply List.Mem.tail))); exact at_spec ⟨rfl, rfl, rfl, rfl, trivial⟩) | (apply Rds.celI; (solve | (repeat (first | exact List.Mem.head _ | apply List.Mem.tail))); exact at_spec ⟨rfl, rfl, rfl, rfl, trivial⟩) | assumption | (apply RdsI.rds; assumption)) ?_
  refine RL.callvq (next_any hd h2 x) Try.call29 rfl rfl rfl rfl ?_
  refine RL.p rfl ?_
  rw [next_no hx]
  refine RL.p rfl (RL.p rfl (RL.alloc (cs := List.replicate 32 (U8 0#8)) Try.zeroValue78 rfl rfl rfl rfl rfl ?_))
  intro b2
  refine RL.storeWq Try.sizeOf78 rfl rfl rfl rfl rfl rfl rfl ?_
  refine RL.p rfl (RL.nil (NQ.seq (CW.ok [0, 3, 5, 6] rfl (CW.seq (CW.seq (CW.rg (RL.p rfl (RL.p rfl (RL.nil (NQ.seq (CW.condT rfl (rfl) (CW.seq (CW.rg ?_)))))))))))))
  refine RL.p rfl (RL.p rfl (RL.nil (NQ.seq (CW.ret (RQ.seq ?_)))))
  exact RQ.post (res1 rfl rfl) (.drop (.drop (.keep (.keep .nil)))) ⟨rfl, rfl, rfl⟩
theorem add_some (r lb m f n : Nat) (fr hd : List B8) (c : Nat) (rg : List Ent) (x : Ent) (hm : 0 < m) (hmb : m ≤ 4096) (hf : f < m) (hn : n < m) (hc : c ≤ 1000000000) (h1 : fr.length = 32) (h2 : hd.length = 32) (hx : x.ok = true) (hrg : rg.length = m) :
    Spc Try.prog 69 #[.pointer (some ⟨r, 0, none⟩), .agg x.cells.toArray] [] [recIt r lb m f n fr hd c, rgIt lb rg]
      (fun v I' H' => v = .int .i64 0 ∧ I' = [] ∧ H' = [recIt r lb m f (n + 1) fr (nextD hd x) (c + 1), rgIt lb (rg.set ((f + n) % m) x)]) := by
  refine Spc.enter Try.func69 rfl rfl rfl (fun w0 hw0 => ?_)
  refine CW.seq (CW.region (ef := [0]) (bk := []) (RL.box rfl rfl rfl rfl rfl rfl ?_))
  intro b1
  refine RL.p rfl (RL.nil (NQ.seq (CW.seq (CW.seq (CW.rg (RL.p rfl (RL.callvq (tis_yes r lb m _ 224 hm) Try.call99 rfl rfl rfl rfl ?_)))))))
  refine RL.p rfl (RL.nil (NQ.seq (CW.condF rfl (rfl) (CW.skip (NQ.seq (CW.seq (CW.regionD (Sq.of [0, 1, 2, 3, 4, 5, 6, 7, 8, 9, 10, 11]) [9, 10] [10] [0, 1, 2, 6, 7, 8, 11] mixed (by kernel_rfl) ?_)))))))
  refine RL.p rfl (RL.p rfl (RL.fieldAddr fa_224_2 rfl rfl rfl rfl (RL.loadSeg ([.slice (some ⟨lb, 0, none⟩) m m, .int .i64 (f : Int), .int .i64 (n : Int)] ++ bytes fr) (bytes hd) [.int .i64 (c : Int)] Try.isAgg78 Try.sizeOf78 rfl rfl rfl rfl (by repeat (first | exact List.Mem.head _ | apply List.Mem.tail)) (by simp [recCells]) (by simp [h1]) (by simp [h2]) ?_)))
  refine RL.loadN (vs := [_, _, _, _]) Try.isAgg83 Try.sizeOf83 rfl rfl rfl rfl (by first | (apply Rds.cel; (solve | (repeat (first | exact List.Mem.head _ | apply List.Mem.tail))); exact at_spec ⟨rfl, rfl, rfl, rfl, trivial⟩) | (apply Rds.celI; (solve | (repeat (first | exact List.Mem.head _ | apply List.Mem.tail))); exact at_spec ⟨rfl, rfl, rfl, rfl, trivial⟩) | assumption | (apply RdsI.rds; assumption)) ?_
  refine RL.callvq (next_any hd h2 x) Try.call29 rfl rfl rfl rfl ?_
  refine RL.p rfl ?_
  rw [next_yes hx]
  refine RL.p rfl (RL.p rfl (RL.alloc (cs := List.replicate 32 (U8 0#8)) Try.zeroValue78 rfl rfl rfl rfl rfl ?_))
  intro b2
  refine RL.storeWq Try.sizeOf78 rfl rfl rfl rfl rfl rfl rfl ?_
  refine RL.p rfl (RL.nil (NQ.seq (CW.ok [0, 3, 5, 6] rfl (CW.seq (CW.seq (CW.rg (RL.p rfl (RL.p rfl (RL.nil (NQ.seq (CW.condF rfl (rfl) (CW.skip (NQ.seq ?_)))))))))))))
  refine CW.seq (CW.seq (CW.regionD (Sq.of [0, 1, 2, 3, 4, 5, 6, 7, 8, 9, 10, 11]) [] [] [0, 1, 2, 3, 5, 6, 7, 8, 10, 11] mixed (by kernel_rfl) ?_))
  refine RL.p rfl (RL.p rfl (RL.fieldAddr fa_224_0 rfl rfl rfl rfl (RL.fieldAddr fa_222_2 rfl rfl rfl rfl (RL.loadq Try.isAgg3 rfl rfl rfl rfl ?_))))
  refine RL.p rfl (RL.p rfl (RL.fieldAddr fa_224_0 rfl rfl rfl rfl (RL.fieldAddr fa_222_0 rfl rfl rfl rfl (RL.loadq Try.isAgg79 rfl rfl rfl rfl ?_))))
  refine RL.lenS Try.runUnderlying79 rfl rfl rfl rfl (RL.p rfl (RL.nil (NQ.seq (CW.ok [0, 3, 5, 6, 33] rfl (CW.condF rfl (by simp; omega) ?_)))))
  refine CW.skip (NQ.seq (CW.seq (CW.regionD (Sq.of [0, 1, 2, 3, 4]) [4] [4] [0, 1, 2] mixed (by kernel_rfl) ?_)))
  refine RL.p rfl (RL.p rfl (RL.fieldAddr fa_224_0 rfl rfl rfl rfl (RL.loadN (vs := [_, _, _, _]) Try.isAgg83 Try.sizeOf83 rfl rfl rfl rfl (by first | (apply Rds.cel; (solve | (repeat (first | exact List.Mem.head _ | apply List.Mem.tail))); exact at_spec ⟨rfl, rfl, rfl, rfl, trivial⟩) | (apply Rds.celI; (solve | (repeat (first | exact List.Mem.head _ | apply List.Mem.tail))); exact at_spec ⟨rfl, rfl, rfl, rfl, trivial⟩) | assumption | (apply RdsI.rds; assumption)) ?_)))
  refine RL.callq (push_any r lb m f n (bytes fr ++ (bytes hd ++ [.int .i64 (c : Int)])) 224 83 rg x hm (by omega) (by omega) hrg) Try.call102 rfl rfl rfl rfl rfl (.inr rfl) ?_
  rintro _ _ _ ⟨rfl, rfl⟩
  refine RL.nil (NQ.seq (CW.ok [0, 5, 6] rfl (CW.seq (CW.region (ef := [7]) (bk := [7]) (RL.p rfl (RL.p rfl (RL.fieldAddr fa_224_3 rfl rfl rfl rfl (RL.load Try.isAgg3 rfl rfl rfl rfl (Rd.get (cs := recCells lb m f (n + 1) fr hd c) (by repeat (first | exact List.Mem.head _ | apply List.Mem.tail)) (rec_count h1 h2)) ?_))))))))
  refine RL.bx rfl (wrapV_i64 (by omega) (by omega)) ?_
  refine RL.p rfl (RL.fieldAddr fa_224_3 rfl rfl rfl rfl (RL.storeSeg (cs := recCells lb m f (n + 1) fr hd c) (cs' := recCells lb m f (n + 1) fr hd (c + 1)) (vs := [.int .i64 ((c : Int) + 1)]) ([.slice (some ⟨lb, 0, none⟩) m m, .int .i64 (f : Int), .int .i64 ((n + 1 : Nat) : Int)] ++ (bytes fr ++ bytes hd)) [.int .i64 (c : Int)] [] Try.sizeOf3 rfl rfl rfl rfl rfl rfl rfl rfl (by simp [recCells]) (by simp [recCells]) (by simp [h1, h2]) rfl rfl (by repeat (first | exact Upd.here | apply Upd.there)) ?_))
  refine RL.nil (NQ.seq (CW.ok [0, 5, 6] rfl (CW.seq (CW.region (ef := [4]) (bk := [4]) (RL.p rfl (RL.loadW Try.isAgg78 Try.sizeOf78 rfl rfl rfl rfl (by repeat (first | exact List.Mem.head _ | apply List.Mem.tail)) (by rw [List.length_map, nextD_length]) ?_))))))
  refine RL.p rfl (RL.fieldAddr fa_224_2 rfl rfl rfl rfl (RL.storeSeg (cs := recCells lb m f (n + 1) fr hd (c + 1)) (cs' := recCells lb m f (n + 1) fr (nextD hd x) (c + 1)) (vs := bytes (nextD hd x)) ([.slice (some ⟨lb, 0, none⟩) m m, .int .i64 (f : Int), .int .i64 ((n + 1 : Nat) : Int)] ++ bytes fr) (bytes hd) [.int .i64 ((c + 1 : Nat) : Int)] Try.sizeOf78 rfl rfl rfl rfl rfl rfl rfl (ones_map one8 _) (by simp [recCells]) (by simp [recCells]) (by simp [h1]) (by simp [h2]) (by simp [nextD_length]) (by repeat (first | exact Upd.here | apply Upd.there)) ?_))
  refine RL.nil (NQ.seq (CW.ok [6] rfl (CW.seq (CW.rg (RL.p rfl (RL.p rfl (RL.nil (NQ.seq (CW.ret ?_)))))))))
  exact RQ.post (res1 rfl rfl) (by first | exact .drop (.drop (.keep (.keep .nil))) | exact .drop (.keep (.keep (.drop .nil))) | exact .keep (.keep (.drop (.drop .nil)))) ⟨rfl, rfl, rfl⟩
theorem add_full (r lb m f : Nat) (fr hd : List B8) (c : Nat) (rg : List Ent) (x x0 : Ent) (hm : 0 < m) (hmb : m ≤ 4096) (hf : f < m) (hc : c ≤ 1000000000) (h1 : fr.length = 32) (h2 : hd.length = 32) (hx : x.ok = true) (hrg : rg.length = m) (h0 : rg[(f + 0) % m]? = some x0) (hx0 : x0.ok = true) :
    Spc Try.prog 69 #[.pointer (some ⟨r, 0, none⟩), .agg x.cells.toArray] [] [recIt r lb m f m fr hd c, rgIt lb rg]
      (fun v I' H' => v = .int .i64 0 ∧ I' = [] ∧ H' = [recIt r lb m ((f + 1) % m) (m - 1 + 1) (nextD fr x0) (nextD hd x) (c + 1), rgIt lb (rg.set (((f + 1) % m + (m - 1)) % m) x)]) := by
  have hlt := Nat.mod_lt (f + 1) hm
  have h3 := nextD_length fr x0
  refine Spc.enter Try.func69 rfl rfl rfl (fun w0 hw0 => ?_)
  refine CW.seq (CW.region (ef := [0]) (bk := []) (RL.box rfl rfl rfl rfl rfl rfl ?_))
  intro b1
  refine RL.p rfl (RL.nil (NQ.seq (CW.seq (CW.seq (CW.rg (RL.p rfl (RL.callvq (tis_yes r lb m _ 224 hm) Try.call99 rfl rfl rfl rfl ?_)))))))
  refine RL.p rfl (RL.nil (NQ.seq (CW.condF rfl (rfl) (CW.skip (NQ.seq (CW.seq (CW.regionD (Sq.of [0, 1, 2, 3, 4, 5, 6, 7, 8, 9, 10, 11]) [9, 10] [10] [0, 1, 2, 6, 7, 8, 11] mixed (by kernel_rfl) ?_)))))))
  refine RL.p rfl (RL.p rfl (RL.fieldAddr fa_224_2 rfl rfl rfl rfl (RL.loadSeg ([.slice (some ⟨lb, 0, none⟩) m m, .int .i64 (f : Int), .int .i64 (m : Int)] ++ bytes fr) (bytes hd) [.int .i64 (c : Int)] Try.isAgg78 Try.sizeOf78 rfl rfl rfl rfl (by repeat (first | exact List.Mem.head _ | apply List.Mem.tail)) (by simp [recCells]) (by simp [h1]) (by simp [h2]) ?_)))
  refine RL.loadN (vs := [_, _, _, _]) Try.isAgg83 Try.sizeOf83 rfl rfl rfl rfl (by first | (apply Rds.cel; (solve | (repeat (first | exact List.Mem.head _ | apply List.Mem.tail))); exact at_spec ⟨rfl, rfl, rfl, rfl, trivial⟩) | (apply Rds.celI; (solve | (repeat (first | exact List.Mem.head _ | apply List.Mem.tail))); exact at_spec ⟨rfl, rfl, rfl, rfl, trivial⟩) | assumption | (apply RdsI.rds; assumption)) ?_
  refine RL.callvq (next_any hd h2 x) Try.call29 rfl rfl rfl rfl ?_
  refine RL.p rfl ?_
  rw [next_yes hx]
  refine RL.p rfl (RL.p rfl (RL.alloc (cs := List.replicate 32 (U8 0#8)) Try.zeroValue78 rfl rfl rfl rfl rfl ?_))
  intro b2
  refine RL.storeWq Try.sizeOf78 rfl rfl rfl rfl rfl rfl rfl ?_
  refine RL.p rfl (RL.nil (NQ.seq (CW.ok [0, 3, 5, 6] rfl (CW.seq (CW.seq (CW.rg (RL.p rfl (RL.p rfl (RL.nil (NQ.seq (CW.condF rfl (rfl) (CW.skip (NQ.seq ?_)))))))))))))
  refine CW.seq (CW.seq (CW.regionD (Sq.of [0, 1, 2, 3, 4, 5, 6, 7, 8, 9, 10, 11]) [] [] [0, 1, 2, 3, 5, 6, 7, 8, 10, 11] mixed (by kernel_rfl) ?_))
  refine RL.p rfl (RL.p rfl (RL.fieldAddr fa_224_0 rfl rfl rfl rfl (RL.fieldAddr fa_222_2 rfl rfl rfl rfl (RL.loadq Try.isAgg3 rfl rfl rfl rfl ?_))))
  refine RL.p rfl (RL.p rfl (RL.fieldAddr fa_224_0 rfl rfl rfl rfl (RL.fieldAddr fa_222_0 rfl rfl rfl rfl (RL.loadq Try.isAgg79 rfl rfl rfl rfl ?_))))
  refine RL.lenS Try.runUnderlying79 rfl rfl rfl rfl (RL.p rfl (RL.nil (NQ.seq (CW.ok [0, 3, 5, 6, 33] rfl (CW.condT rfl (by simp) ?_)))))
  refine CW.seq (CW.regionD (Sq.of [0, 1, 2, 3, 4, 5, 6, 7, 8, 9, 10, 11, 12, 13, 14, 15, 16, 17]) [17] [17] [0, 1, 2, 3, 5, 6, 7, 9, 12, 13, 14, 15, 16] mixed (by kernel_rfl) ?_)
  refine RL.p rfl (RL.p rfl (RL.p rfl (RL.fieldAddr fa_224_1 rfl rfl rfl rfl (RL.loadSeg [.slice (some ⟨lb, 0, none⟩) m m, .int .i64 (f : Int), .int .i64 (m : Int)] (bytes fr) (bytes hd ++ [.int .i64 (c : Int)]) Try.isAgg78 Try.sizeOf78 rfl rfl rfl rfl (by repeat (first | exact List.Mem.head _ | apply List.Mem.tail)) (by simp [recCells]) rfl (by simp [h1]) ?_))))
  refine RL.p rfl (RL.p rfl (RL.fieldAddr fa_224_0 rfl rfl rfl rfl (RL.callvq (at_any r lb m f 0 _ 224 hm (by omega) (by omega)) Try.call100 rfl rfl rfl rfl ?_)))
  refine RL.p rfl (RL.loadN (vs := x0.cells) Try.isAgg83 Try.sizeOf83 rfl rfl rfl rfl (Rds.cel (by repeat (first | exact List.Mem.head _ | apply List.Mem.tail)) (ent_at h0)) ?_)
  refine RL.callvq (next_any fr h1 x0) Try.call29 rfl rfl rfl rfl ?_
  refine RL.p rfl ?_
  rw [next_yes hx0]
  refine RL.p rfl (RL.p rfl (RL.p rfl (RL.fieldAddr fa_224_1 rfl rfl rfl rfl (RL.storeSeg (cs := recCells lb m f m fr hd c) (cs' := recCells lb m f m (nextD fr x0) hd c) (vs := bytes (nextD fr x0)) [.slice (some ⟨lb, 0, none⟩) m m, .int .i64 (f : Int), .int .i64 (m : Int)] (bytes fr) (bytes hd ++ [.int .i64 (c : Int)]) Try.sizeOf78 rfl rfl rfl rfl rfl rfl rfl (ones_map one8 _) (by simp [recCells]) (by simp [recCells]) rfl (by simp [h1]) (by simp [nextD_length]) (by repeat (first | exact Upd.here | apply Upd.there)) ?_))))
  refine RL.nil (NQ.seq (CW.ok [0, 3, 5, 6] rfl (CW.region (ef := [3]) (bk := [3]) (RL.p rfl (RL.p rfl (RL.fieldAddr fa_224_0 rfl rfl rfl rfl (RL.callq (drop_any r lb m f m (bytes (nextD fr x0) ++ (bytes hd ++ [.int .i64 (c : Int)])) 224 hm (by omega) hm (by omega)) Try.call101 rfl rfl rfl rfl rfl (.inr rfl) ?_)))))))
  rintro _ _ _ ⟨rfl, rfl⟩
  refine RL.nil (NQ.seq (CW.seq (CW.regionD (Sq.of [0, 1, 2, 3, 4]) [4] [4] [0, 1, 2] mixed (by kernel_rfl) ?_)))
  refine RL.p rfl (RL.p rfl (RL.fieldAddr fa_224_0 rfl rfl rfl rfl (RL.loadN (vs := [_, _, _, _]) Try.isAgg83 Try.sizeOf83 rfl rfl rfl rfl (by first | (apply Rds.cel; (solve | (repeat (first | exact List.Mem.head _ | apply List.Mem.tail))); exact at_spec ⟨rfl, rfl, rfl, rfl, trivial⟩) | (apply Rds.celI; (solve | (repeat (first | exact List.Mem.head _ | apply List.Mem.tail))); exact at_spec ⟨rfl, rfl, rfl, rfl, trivial⟩) | assumption | (apply RdsI.rds; assumption)) ?_)))
  refine RL.callq (push_any r lb m ((f + 1) % m) (m - 1) (bytes (nextD fr x0) ++ (bytes hd ++ [.int .i64 (c : Int)])) 224 83 rg x hm (by omega) (by omega) hrg) Try.call102 rfl rfl rfl rfl rfl (.inr rfl) ?_
  rintro _ _ _ ⟨rfl, rfl⟩
  refine RL.nil (NQ.seq (CW.ok [0, 5, 6] rfl (CW.seq (CW.region (ef := [7]) (bk := [7]) (RL.p rfl (RL.p rfl (RL.fieldAddr fa_224_3 rfl rfl rfl rfl (RL.load Try.isAgg3 rfl rfl rfl rfl (Rd.get (cs := recCells lb m ((f + 1) % m) ((m - 1) + 1) (nextD fr x0) hd c) (by repeat (first | exact List.Mem.head _ | apply List.Mem.tail)) (rec_count h3 h2)) ?_))))))))
  refine RL.bx rfl (wrapV_i64 (by omega) (by omega)) ?_
  refine RL.p rfl (RL.fieldAddr fa_224_3 rfl rfl rfl rfl (RL.storeSeg (cs := recCells lb m ((f + 1) % m) ((m - 1) + 1) (nextD fr x0) hd c) (cs' := recCells lb m ((f + 1) % m) ((m - 1) + 1) (nextD fr x0) hd (c + 1)) (vs := [.int .i64 ((c : Int) + 1)]) ([.slice (some ⟨lb, 0, none⟩) m m, .int .i64 (((f + 1) % m) : Int), .int .i64 (((m - 1) + 1 : Nat) : Int)] ++ (bytes (nextD fr x0) ++ bytes hd)) [.int .i64 (c : Int)] [] Try.sizeOf3 rfl rfl rfl rfl rfl rfl rfl rfl (by simp [recCells]) (by simp [recCells]) (by simp [h3, h2]) rfl rfl (by repeat (first | exact Upd.here | apply Upd.there)) ?_))
  refine RL.nil (NQ.seq (CW.ok [0, 5, 6] rfl (CW.seq (CW.region (ef := [4]) (bk := [4]) (RL.p rfl (RL.loadW Try.isAgg78 Try.sizeOf78 rfl rfl rfl rfl (by repeat (first | exact List.Mem.head _ | apply List.Mem.tail)) (by rw [List.length_map, nextD_length]) ?_))))))
  refine RL.p rfl (RL.fieldAddr fa_224_2 rfl rfl rfl rfl (RL.storeSeg (cs := recCells lb m ((f + 1) % m) ((m - 1) + 1) (nextD fr x0) hd (c + 1)) (cs' := recCells lb m ((f + 1) % m) ((m - 1) + 1) (nextD fr x0) (nextD hd x) (c + 1)) (vs := bytes (nextD hd x)) ([.slice (some ⟨lb, 0, none⟩) m m, .int .i64 (((f + 1) % m) : Int), .int .i64 (((m - 1) + 1 : Nat) : Int)] ++ bytes (nextD fr x0)) (bytes hd) [.int .i64 ((c + 1 : Nat) : Int)] Try.sizeOf78 rfl rfl rfl rfl rfl rfl rfl (ones_map one8 _) (by simp [recCells]) (by simp [recCells]) (by simp [h3]) (by simp [h2]) (by simp [nextD_length]) (by repeat (first | exact Upd.here | apply Upd.there)) ?_))
  refine RL.nil (NQ.seq (CW.ok [6] rfl (CW.seq (CW.rg (RL.p rfl (RL.p rfl (RL.nil (NQ.seq (CW.ret ?_)))))))))
  exact RQ.post (res1 rfl rfl) (by first | exact .drop (.drop (.keep (.keep .nil))) | exact .drop (.keep (.keep (.drop .nil))) | exact .keep (.keep (.drop (.drop .nil)))) ⟨rfl, rfl, rfl⟩
end Go.Proofs.Ytbdnebedmdoehaa
