import Derived.Test.YtbdnebedmdoehaaT5
namespace Go.Proofs.Ytbdnebedmdoehaa
open Go.PK

/-- A report. -/
structure Rep where
  fr : List B8
  to : List B8
  a : Int
  L : List Ent
def Rep.cells (p : Rep) (sl : Value) : List Value := bytes p.fr ++ (bytes p.to ++ [.int .i64 p.a, sl])
def rep0 : Rep := ⟨zeros, zeros, 0, []⟩
/-- A report comes, and its error; 'U': its entries' type. -/
def RepR (U : TypeId) (p : Rep) (e : Int) : Value → List It → List It → Prop := fun v I' H' => ∃ ob cap, v = .tuple #[.agg (p.cells (slO ob p.L.length cap)).toArray, .int .i64 e] ∧ I' = [] ∧ H' = [own ob cap U 4 p.L.length (entsV p.L)]
def repOf (es : List Ent) (q : Nat) : Rep := ⟨headOf (es.take (es.length - q)), headOf es, ((es.length - q : Nat) : Int), es.drop (es.length - q)⟩
def repV (m : Nat) (es : List Ent) (z : Int) : Rep := if z < 0 then rep0 else repOf es (min z.toNat (min es.length m))

theorem fill_rep {fr to : List B8} {a : Int} {sl0 : Value} (h1 : fr.length = 32) (h2 : to.length = 32) {places : Array (Nat × Nat)} (hp : places = #[(0, 32), (32, 32), (64, 1), (65, 1)]) :
    fillL (places[·]?) (bytes zeros ++ (bytes zeros ++ [.int .i64 0, sl0])) [(0, .agg (bytes fr).toArray), (1, .agg (bytes to).toArray), (2, .int .i64 a)] = some (Rep.cells ⟨fr, to, a, []⟩ sl0) := by
  subst hp
  refine fill_seg [] (bytes zeros) (bytes zeros ++ [.int .i64 0, sl0]) rfl (agg_cells _) rfl rfl rfl (by simp [h1]) ?_
  refine fill_seg (bytes fr) (bytes zeros) [.int .i64 0, sl0] rfl (agg_cells _) rfl (by simp [h1]) rfl (by simp [h2]) ?_
  refine fill_seg (vs := [.int .i64 a]) (bytes fr ++ bytes to) [.int .i64 0] [sl0] rfl rfl (by simp) (by simp [h1, h2]) rfl rfl ?_
  simp [Rep.cells, fillL]
theorem entsV_append (a b : List Ent) : entsV (a ++ b) = entsV a ++ entsV b := List.flatMap_append
theorem ones_append : ∀ (a b : List Value), ones (a ++ b) = (ones a && ones b)
  | [], _ => rfl
  | u :: a, b => by rw [List.cons_append, ones, ones, ones_append a b, Bool.and_assoc]
theorem ones_rep (p : Rep) {sl : Value} (h : sl.oneCell' = true) : ones (p.cells sl) = true := by
  unfold Rep.cells
  rw [ones_append, ones_append, ones_map one8, ones_map one8]
  simp [ones, h]; rfl
theorem rep_len {p : Rep} {sl : Value} (h1 : p.fr.length = 32) (h2 : p.to.length = 32) : (p.cells sl).length = 66 := by simp [Rep.cells, h1, h2]
theorem rep_sl {p : Rep} {sl : Value} (h1 : p.fr.length = 32) (h2 : p.to.length = 32) : (p.cells sl)[0 + 65]? = some sl := by simp [Rep.cells, List.getElem?_append, h1, h2]
theorem headOf_next {es : List Ent} {q : Nat} {x : Ent} (h : es[q]? = some x) : nextD (headOf (es.take q)) x = headOf (es.take (q + 1)) := (headOf_take h).symm
theorem report_neg (r lb m f n : Nat) (fr hd : List B8) (c : Nat) (rg : List Ent) (z : Int) (hz : z < 0) (hm : 0 < m) :
    Spc Try.prog 70 #[.pointer (some ⟨r, 0, none⟩), .int .i64 z] [recIt r lb m f n fr hd c, rgIt lb rg] [] (RepR 83 rep0 2) := by
  refine Spc.enter Try.func70 rfl rfl rfl (fun w0 hw0 => ?_)
  refine CW.seq (CW.region (ef := [0]) (bk := []) (RL.alloc Try.zeroValue81 rfl rfl rfl rfl rfl ?_))
  intro b1
  refine RL.p rfl (RL.nil (NQ.seq (CW.seq (CW.block (CW.seq (CW.rg (RL.p rfl (RL.callvq (tis_yes r lb m _ 224 hm) Try.call99 rfl rfl rfl rfl ?_))))))))
  refine RL.p rfl (RL.p rfl (RL.nil (NQ.seq (CW.condF rfl (rfl) (CW.seq (CW.rg (RL.p rfl (RL.p rfl (RL.p rfl (RL.nil (NQ.seq (CW.ok [0, 1, 4, 5, 15] rfl (CW.condT rfl (by simp; omega) ?_)))))))))))))
  refine CW.seq (CW.region (ef := [1]) (bk := [1]) (RL.buildS _ Try.zeroValue81 pl_81 rfl rfl rfl rfl rfl (RL.storeWq Try.sizeOf81 rfl rfl rfl rfl rfl rfl rfl ?_)))
  refine RL.p rfl (RL.nil (NQ.seq (CW.ret (RQ.block (RQ.seq (RQ.ownNone (e := 83) 4 ?_))))))
  exact RQ.post (resWT rfl rfl rfl Try.isAgg81 Try.sizeOf81 (by repeat (first | exact List.Mem.head _ | apply List.Mem.tail)) rfl) (.keep (Split.none _)) ⟨none, 0, rfl, rfl, rfl⟩
theorem report_yes (r lb m : Nat) (es rg : List Ent) (z : Int) (hz : 0 ≤ z) (hm : 0 < m) (hmb : m ≤ 4096) (hl : es.length ≤ 1000000000) (hi : RecInv m es rg) (n q : Nat) (hn : n = min es.length m) (hq : q = min z.toNat n) :
    Spc Try.prog 70 #[.pointer (some ⟨r, 0, none⟩), .int .i64 z] (RecH r lb m es rg) [] (RepR 83 (repOf es q) 0) := by
  have h1 := headOf_length (es.take (es.length - min es.length m))
  have h2 := headOf_length es
  rw [← hn] at h1
  unfold RecH
  rw [← hn]
  have hnb : n ≤ 4096 := by omega
  have hqn : q ≤ n := by omega
  have hnl : n ≤ es.length := by omega
  refine Spc.enter Try.func70 rfl rfl rfl (fun w0 hw0 => ?_)
  refine CW.seq (CW.region (ef := [0]) (bk := []) (RL.alloc Try.zeroValue81 rfl rfl rfl rfl rfl ?_))
  intro b1
  refine RL.p rfl (RL.nil (NQ.seq (CW.seq (CW.block (CW.seq (CW.rg (RL.p rfl (RL.callvq (tis_yes r lb m _ 224 hm) Try.call99 rfl rfl rfl rfl ?_))))))))
  refine RL.p rfl (RL.p rfl (RL.nil (NQ.seq (CW.condF rfl (rfl) (CW.seq (CW.rg (RL.p rfl (RL.p rfl (RL.p rfl (RL.nil (NQ.seq (CW.ok [0, 1, 4, 5, 15] rfl (CW.condF rfl (by simp; omega) ?_)))))))))))))
  refine CW.skip (NQ.block (NQ.seq (CW.seq (CW.rg (RL.p rfl (RL.p rfl (RL.p rfl (RL.fieldAddr fa_224_0 rfl rfl rfl rfl (RL.fieldAddr fa_222_2 rfl rfl rfl rfl (RL.loadq Try.isAgg3 rfl rfl rfl rfl ?_))))))))))
  refine RL.min rfl rfl rfl rfl rfl (RL.p rfl (RL.nil (NQ.seq (CW.ok [0, 4, 6] rfl (CW.seq ?_)))))
  rw [show min z (n : Int) = ((q : Nat) : Int) by omega]
  refine CW.regionD (Sq.of [0, 1, 2, 3, 4, 5, 6, 7, 8, 9, 10, 11, 12, 13, 14, 15, 16]) [15, 16] [16] [0, 1, 2, 4, 5, 6, 8, 9, 10, 12, 13, 14] mixed (by kernel_rfl) ?_
  refine RL.p rfl (RL.p rfl (RL.fieldAddr fa_224_1 rfl rfl rfl rfl (RL.loadSegI [.slice (some ⟨lb, 0, none⟩) m m, .int .i64 (((es.length - n) % m : Nat) : Int), .int .i64 (n : Int)] (bytes (headOf (es.take (es.length - n)))) (bytes (headOf es) ++ [.int .i64 (es.length : Int)]) Try.isAgg78 Try.sizeOf78 rfl rfl rfl rfl (by repeat (first | exact List.Mem.head _ | apply List.Mem.tail)) (by simp [recCells]) rfl (by simp [h1]) ?_)))
  refine RL.p rfl (RL.p rfl (RL.fieldAddr fa_224_2 rfl rfl rfl rfl (RL.loadSegI ([.slice (some ⟨lb, 0, none⟩) m m, .int .i64 (((es.length - n) % m : Nat) : Int), .int .i64 (n : Int)] ++ bytes (headOf (es.take (es.length - n)))) (bytes (headOf es)) [.int .i64 (es.length : Int)] Try.isAgg78 Try.sizeOf78 rfl rfl rfl rfl (by repeat (first | exact List.Mem.head _ | apply List.Mem.tail)) (by simp [recCells]) (by simp [h1]) (by simp [h2]) ?_)))
  refine RL.p rfl (RL.p rfl (RL.fieldAddr fa_224_3 rfl rfl rfl rfl (RL.load Try.isAgg3 rfl rfl rfl rfl (Rd.getI (cs := recCells lb m ((es.length - n) % m) n (headOf (es.take (es.length - n))) (headOf es) es.length) (by repeat (first | exact List.Mem.head _ | apply List.Mem.tail)) (rec_count h1 h2)) ?_)))
  refine RL.p rfl (RL.bx rfl (wrapV_i64 (by omega) (by omega)) ?_)
  refine RL.buildS (Rep.cells ⟨headOf (es.take (es.length - n)), headOf es, (es.length : Int) - (q : Int), []⟩ (.slice none 0 0)) Try.zeroValue81 pl_81 rfl rfl rfl rfl (fill_rep h1 h2 rfl) (RL.alloc Try.zeroValue81 rfl rfl rfl rfl rfl ?_)
  intro b2
  rw [show (es.length : Int) - (q : Int) = ((es.length - q : Nat) : Int) by omega]
  refine RL.storeW Try.sizeOf81 rfl rfl rfl rfl rfl rfl rfl (ones_rep _ rfl) (by repeat (first | exact Upd.here | apply Upd.there)) (rep_len h1 h2) rfl ?_
  refine RL.nil (NQ.seq (CW.ok [0, 4, 6, 7] rfl (CW.seq (CW.seq (CW.rg (RL.p rfl (RL.p rfl (RL.fieldAddr fa_224_0 rfl rfl rfl rfl (RL.fieldAddr fa_222_2 rfl rfl rfl rfl (RL.loadq Try.isAgg3 rfl rfl rfl rfl ?_))))))))))
  refine RL.p rfl (RL.nil (NQ.seq (CW.block (CW.ownNone (e := 83) 4 ?_))))
  refine CW.loop (γ := Nat × Option Nat × Nat) (fun g => g.1 ≤ n) (fun g => [(0, .pointer (some ⟨r, 0, none⟩)), (4, .pointer (some ⟨b1, 0, none⟩)), (6, .int .i64 (q : Int)), (7, .pointer (some ⟨b2, 0, none⟩)), (45, .int .i64 (n : Int)), (46, .int .i64 (g.1 : Int))])
    (fun _ => [recIt r lb m ((es.length - n) % m) n (headOf (es.take (es.length - n))) (headOf es) es.length, rgIt lb rg])
    (fun g => [cel b2 (Rep.cells ⟨headOf (es.take (es.length - n + min g.1 (n - q))), headOf es, ((es.length - q : Nat) : Int), []⟩ (slO g.2.1 (g.1 - (n - q)) g.2.2)) 81, own g.2.1 g.2.2 83 4 (g.1 - (n - q)) (entsV ((es.drop (es.length - q)).take (g.1 - (n - q)))), cel b1 (rep0.cells (.slice none 0 0)) 81])
    (fun g => n - g.1) (0, none, 0) (by simp) (.cons rfl (.cons rfl (.cons rfl (.cons rfl (.cons rfl (.cons rfl .nil)))))) (fun w h => ?_) ?_
  · simp only [Nat.zero_min, Nat.add_zero, Nat.zero_sub, List.take_zero, List.flatMap_nil]
    exact h.rea (fun _ h => by simpa using h) (by repeat (first | exact Rea.nil | (apply Rea.cons; (solve | (repeat (first | exact Del.here | apply Del.there))))))
  rintro ⟨k, ob, cp⟩ hk
  dsimp only at hk ⊢
  have h3 := headOf_length (es.take (es.length - n + min k (n - q)))
  refine CW.seq (CW.rg (RL.p rfl (RL.nil (NQ.seq (CW.seq ?_)))))
  refine CW.cond rfl (fun hlt => ?_) (fun hlt => ?_)
  ·
    have hlt : k < n := by simp at hlt; omega
    have hx := List.getElem?_eq_getElem (show es.length - n + k < es.length by omega)
    generalize es[es.length - n + k]'(show es.length - n + k < es.length by omega) = x at hx
    have hxo : x.ok = true := hi.ok x (List.mem_of_getElem? hx)
    have hrg : rg[((es.length - n) % m + k) % m]? = some x := by rw [Nat.mod_add_mod, hi.at_ _ (by omega) (by omega)]; exact hx
    refine CW.skip (NQ.seq (CW.seq (CW.block (CW.seq (CW.rg (RL.p rfl (RL.p rfl (RL.nil (NQ.seq (CW.seq (CW.region (ef := [7, 8]) (bk := [8]) (RL.p rfl (RL.p rfl ?_)))))))))))))
    refine RL.fieldAddr fa_224_0 rfl rfl rfl rfl (RL.p rfl (RL.callvq (at_any r lb m ((es.length - n) % m) k _ 224 hm (by have := Nat.mod_lt (es.length - n) hm; omega) (by omega)) Try.call100 rfl rfl rfl rfl ?_))
    refine RL.p rfl (RL.loadN (vs := x.cells) Try.isAgg83 Try.sizeOf83 rfl rfl rfl rfl (Rds.celI (by repeat (first | exact List.Mem.head _ | apply List.Mem.tail)) (ent_at hrg)) ?_)
    refine RL.alloc Try.zeroValue83 rfl rfl rfl rfl rfl ?_
    intro b3
    refine RL.store (vs := [_, _, _, _]) Try.sizeOf83 rfl rfl rfl rfl rfl rfl rfl rfl rfl (by repeat (first | exact Upd.here | apply Upd.there)) ?_
    refine RL.nil (NQ.seq (CW.ok [0, 4, 6, 7, 8, 9, 45, 46] rfl (CW.seq (CW.seq (CW.rg (RL.p rfl (RL.p rfl (RL.p rfl (RL.fieldAddr fa_224_0 rfl rfl rfl rfl (RL.fieldAddr fa_222_2 rfl rfl rfl rfl (RL.loadq Try.isAgg3 rfl rfl rfl rfl ?_)))))))))))
    refine RL.p rfl (RL.bx rfl (wrapV_i64 (by omega) (by omega)) ?_)
    refine RL.p rfl (RL.nil (NQ.seq (CW.ok [0, 4, 6, 7, 9, 45, 46, 64] rfl ?_)))
    refine CW.cond rfl (fun hkq => ?_) (fun hkq => ?_)
    ·
      have hkq : k < n - q := by simp at hkq; omega
      refine CW.seq (CW.region (ef := [8]) (bk := [8]) (RL.fieldAddr fa_81_0 rfl rfl rfl rfl (RL.loadSeg [] (bytes (headOf (es.take (es.length - n + min k (n - q))))) (bytes (headOf es) ++ [.int .i64 ((es.length - q : Nat) : Int), slO ob (k - (n - q)) cp]) Try.isAgg78 Try.sizeOf78 rfl rfl rfl rfl (by repeat (first | exact List.Mem.head _ | apply List.Mem.tail)) (by simp [Rep.cells]) rfl (by simp [h3]) ?_)))
      refine RL.loadN (vs := [_, _, _, _]) Try.isAgg83 Try.sizeOf83 rfl rfl rfl rfl (by first | (apply Rds.cel; (solve | (repeat (first | exact List.Mem.head _ | apply List.Mem.tail))); exact at_spec ⟨rfl, rfl, rfl, rfl, trivial⟩) | (apply Rds.celI; (solve | (repeat (first | exact List.Mem.head _ | apply List.Mem.tail))); exact at_spec ⟨rfl, rfl, rfl, rfl, trivial⟩) | assumption | (apply RdsI.rds; assumption)) ?_
      refine RL.callvq (next_any (headOf (es.take (es.length - n + min k (n - q)))) h3 x) Try.call29 rfl rfl rfl rfl ?_
      refine RL.p rfl ?_
      rw [next_yes hxo, show min k (n - q) = k by omega, headOf_next hx]
      refine RL.p rfl (RL.p rfl (RL.fieldAddr fa_81_0 rfl rfl rfl rfl (RL.storeSeg (cs := Rep.cells ⟨headOf (es.take (es.length - n + k)), headOf es, ((es.length - q : Nat) : Int), []⟩ (slO ob (k - (n - q)) cp)) (cs' := Rep.cells ⟨headOf (es.take (es.length - n + k + 1)), headOf es, ((es.length - q : Nat) : Int), []⟩ (slO ob (k - (n - q)) cp)) (vs := bytes (headOf (es.take (es.length - n + k + 1)))) [] (bytes (headOf (es.take (es.length - n + k)))) (bytes (headOf es) ++ [.int .i64 ((es.length - q : Nat) : Int), slO ob (k - (n - q)) cp]) Try.sizeOf78 rfl rfl rfl rfl rfl rfl rfl (ones_map one8 _) (by simp [Rep.cells]) (by simp [Rep.cells]) rfl (by simp [headOf_length]) (by simp [headOf_length]) (by repeat (first | exact Upd.here | apply Upd.there)) ?_)))
      refine RL.nil (NQ.seq (CW.ok [0, 4, 6, 7, 9, 45, 46] rfl (CW.exit (XQ.seq (XQ.hit (NQ.seq (CW.rg (RL.bx rfl (wrapV_i64 (by omega) (by omega)) ?_))))))))
      refine RL.p rfl (RL.nil ?_)
      refine NQ.round (g := (k, ob, cp)) (k + 1, ob, cp) hlt (by show n - (k + 1) < n - k; omega) (.cons rfl (.cons rfl (.cons rfl (.cons rfl (.cons rfl (.cons rfl .nil)))))) (fun w h => ?_)
      dsimp only
      rw [show es.length - n + min (k + 1) (n - q) = es.length - n + k + 1 by omega, show k + 1 - (n - q) = k - (n - q) by omega]
      exact h.rea (fun _ h => by simpa using h) (by repeat (first | exact Rea.nil | (apply Rea.cons; (solve | (repeat (first | exact Del.here | apply Del.there))))))
    ·
      have hkq : n - q ≤ k := by simp at hkq; omega
      refine CW.skip (NQ.seq (CW.region (ef := [3, 4, 6]) (bk := [4, 6]) (RL.fieldAddr fa_81_3 rfl rfl rfl rfl (RL.load Try.isAgg79 rfl rfl rfl rfl (Rd.get (cs := Rep.cells ⟨headOf (es.take (es.length - n + min k (n - q))), headOf es, ((es.length - q : Nat) : Int), []⟩ (slO ob (k - (n - q)) cp)) (by repeat (first | exact List.Mem.head _ | apply List.Mem.tail)) (rep_sl h3 h2)) ?_))))
      refine RL.loadN (vs := [_, _, _, _]) Try.isAgg83 Try.sizeOf83 rfl rfl rfl rfl (by first | (apply Rds.cel; (solve | (repeat (first | exact List.Mem.head _ | apply List.Mem.tail))); exact at_spec ⟨rfl, rfl, rfl, rfl, trivial⟩) | (apply Rds.celI; (solve | (repeat (first | exact List.Mem.head _ | apply List.Mem.tail))); exact at_spec ⟨rfl, rfl, rfl, rfl, trivial⟩) | assumption | (apply RdsI.rds; assumption)) ?_
      refine RL.buildSlice [_, _, _, _] Try.runUnderlying79 Try.sizeOf83 Try.zeroValue83 rfl rfl (by decide) (by decide) rfl rfl rfl rfl rfl rfl ?_
      intro b4
      refine RL.appendq el_79 rfl rfl rfl rfl rfl rfl rfl ?_
      intro ob1 cap1 ho1
      refine RL.fieldAddr fa_81_3 rfl rfl rfl rfl (RL.storeSeg (cs := Rep.cells ⟨headOf (es.take (es.length - n + min k (n - q))), headOf es, ((es.length - q : Nat) : Int), []⟩ (slO ob (k - (n - q)) cp)) (cs' := Rep.cells ⟨headOf (es.take (es.length - n + min k (n - q))), headOf es, ((es.length - q : Nat) : Int), []⟩ (slO ob1 (k - (n - q) + 1) cap1)) (vs := [slO ob1 (k - (n - q) + 1) cap1]) (bytes (headOf (es.take (es.length - n + min k (n - q)))) ++ (bytes (headOf es) ++ [.int .i64 ((es.length - q : Nat) : Int)])) [slO ob (k - (n - q)) cp] [] Try.sizeOf79 rfl rfl rfl rfl rfl rfl rfl rfl (by simp [Rep.cells]) (by simp [Rep.cells]) (by simp [h2, h3]) rfl rfl (by repeat (first | exact Upd.here | apply Upd.there)) ?_)
      refine RL.nil (NQ.block (NQ.seq (CW.ok [0, 4, 6, 7, 45, 46] rfl (CW.rg (RL.bx rfl (wrapV_i64 (by omega) (by omega)) ?_)))))
      refine RL.p rfl (RL.nil ?_)
      refine NQ.round (g := (k, ob, cp)) (k + 1, ob1, cap1) hlt (by show n - (k + 1) < n - k; omega) (.cons rfl (.cons rfl (.cons rfl (.cons rfl (.cons rfl (.cons rfl .nil)))))) (fun w h => ?_)
      dsimp only
      have hj : (es.drop (es.length - q))[k - (n - q)]? = some x := by rw [List.getElem?_drop, show es.length - q + (k - (n - q)) = es.length - n + k by omega]; exact hx
      obtain ⟨hj1, hj2⟩ := List.getElem?_eq_some_iff.1 hj
      have e1 : k + 1 - (n - q) = k - (n - q) + 1 := by omega
      rw [show min (k + 1) (n - q) = min k (n - q) by omega, e1, List.take_succ_eq_append_getElem hj1, hj2, entsV_append]
      exact h.rea (fun _ h => by simpa using h) (by repeat (first | exact Rea.nil | (apply Rea.cons; (solve | (repeat (first | exact Del.here | apply Del.there))))))
  ·
    have hkn : k = n := by simp at hlt; omega
    subst hkn
    have e1 : es.length - k + min k (k - q) = es.length - q := by omega
    have e2 : k - (k - q) = q := by omega
    have e3 : (es.drop (es.length - q)).length = q := by rw [List.length_drop]; omega
    rw [e1] at h3 ⊢
    have e4 : (es.drop (es.length - q)).take q = es.drop (es.length - q) := List.take_of_length_le (by rw [e3]; exact Nat.le_refl _)
    rw [e2, e4]
    refine CW.exit (XQ.seq (XQ.seq (XQ.hit (NQ.seq (CW.seq (CW.region (ef := [1]) (bk := [1]) (RL.loadW Try.isAgg81 Try.sizeOf81 rfl rfl rfl rfl (by repeat (first | exact List.Mem.head _ | apply List.Mem.tail)) (rep_len h3 h2) ?_)))))))
    refine RL.storeW Try.sizeOf81 rfl rfl rfl rfl rfl rfl rfl (ones_rep _ rfl) (by repeat (first | exact Upd.here | apply Upd.there)) (rep_len h3 h2) rfl ?_
    refine RL.p rfl (RL.nil (NQ.seq (CW.ok [4, 5] rfl (CW.ret ?_))))
    have hq' : (repOf es q).L.length = q := e3
    exact RQ.post (resWT rfl rfl rfl Try.isAgg81 Try.sizeOf81 (by repeat (first | exact List.Mem.head _ | apply List.Mem.tail)) (rep_len h3 h2)) (.drop (.keep (.drop .nil))) ⟨ob, cp, by rw [hq']; rfl, rfl, by rw [hq']; rfl⟩
theorem report_any (r lb m : Nat) (es rg : List Ent) (z : Int) (hm : 0 < m) (hmb : m ≤ 4096) (hl : es.length ≤ 1000000000) (hi : RecInv m es rg) :
    Spc Try.prog 70 #[.pointer (some ⟨r, 0, none⟩), .int .i64 z] (RecH r lb m es rg) [] (RepR 83 (repV m es z) (if z < 0 then 2 else 0)) := by
  unfold repV
  by_cases hz : z < 0
  · rw [if_pos hz, if_pos hz]; exact report_neg r lb m _ _ _ _ _ rg z hz hm
  · rw [if_neg hz, if_neg hz]; exact report_yes r lb m es rg z (by omega) hm hmb hl hi _ _ rfl rfl
theorem fill_rep4 {fr to : List B8} {a : Int} {sl0 sl : Value} (h1 : fr.length = 32) (h2 : to.length = 32) (hs : sl.cells.toList = [sl]) {places : Array (Nat × Nat)} (hp : places = #[(0, 32), (32, 32), (64, 1), (65, 1)]) :
    fillL (places[·]?) (bytes zeros ++ (bytes zeros ++ [.int .i64 0, sl0])) [(0, .agg (bytes fr).toArray), (1, .agg (bytes to).toArray), (2, .int .i64 a), (3, sl)] = some (Rep.cells ⟨fr, to, a, []⟩ sl) := by
  subst hp
  refine fill_seg [] (bytes zeros) (bytes zeros ++ [.int .i64 0, sl0]) rfl (agg_cells _) rfl rfl rfl (by simp [h1]) ?_
  refine fill_seg (bytes fr) (bytes zeros) [.int .i64 0, sl0] rfl (agg_cells _) rfl (by simp [h1]) rfl (by simp [h2]) ?_
  refine fill_seg (vs := [.int .i64 a]) (bytes fr ++ bytes to) [.int .i64 0] [sl0] rfl rfl (by simp) (by simp [h1, h2]) rfl rfl ?_
  refine fill_seg (vs := [sl]) (bytes fr ++ (bytes to ++ [.int .i64 a])) [sl0] [] rfl hs (by simp) (by simp [h1, h2]) rfl rfl ?_
  simp [Rep.cells, fillL]
end Go.Proofs.Ytbdnebedmdoehaa
