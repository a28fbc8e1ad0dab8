import Derived.Test.YtkkfdoippibfkaaMac2
namespace Go.Proofs.Ytkkfdoippibfkaa
open Go.PK

def macTag (key b : List B8) : List B8 := (macCode key b).take 16
theorem macTag_len (key b : List B8) : (macTag key b).length = 16 := by simp [macTag, macCode_len]

theorem bytes_take (l : List B8) (n : Nat) : (bytes l).take n = bytes (l.take n) := (List.map_take (f := U8)).symm

theorem rcode_any (p : Option Addr) (kcap : Nat) (key : List B8) (hkb : key.length ≤ 1000000000) (q : Option Addr) (cap : Nat) (b : List B8) (hb : b.length ≤ 100000000) :
    Spc Try.prog 150 #[.slice p key.length kcap, .slice q b.length cap] [sls p 1 key.length (bytes key), sls q 1 b.length (bytes b)] [] (Is (.agg (bytes (macCode key b)).toArray)) := by
  have l54 := padB_len key 54#8
  have l92 := padB_len key 92#8
  refine Spc.enter Try.func150 rfl rfl rfl (fun w0 hw0 => ?_)
  refine CW.seq ?_
  refine CW.region (ef := [0]) (bk := []) ?_
  refine RL.alloc (cs := List.replicate 32 (U8 0#8)) Try.zeroValue133 rfl rfl rfl rfl rfl ?_
  intro b1
  refine RL.nil ?_
  refine NQ.seq ?_
  refine CW.seq ?_
  refine CW.region (ef := [1, 3, 4, 5, 6]) (bk := [3, 6]) ?_
  refine RL.move rfl rfl rfl rfl ?_
  refine RL.call (rpad_any p kcap key hkb 54#8) Try.call192 rfl rfl rfl rfl rfl (by repeat (first | exact Pick.nil | apply Pick.take | apply Pick.leave)) (.inI (by repeat (first | exact List.Mem.head _ | apply List.Mem.tail)) .nil) (.inl rfl) ?_
  -- STOP: called; op 2: d=8 ["move", ["t", 1]] guard=None (ref.go:27)
  rintro _ _ _ ⟨obA, cA, rfl, rfl, rfl, hoA⟩
  refine RL.move rfl rfl rfl rfl ?_
  refine RL.appendA el_95 rfl rfl rfl rfl rfl rfl rfl (by first | exact ⟨(.take (Pick.none _)), rfl⟩ | exact ⟨(.leave (.take (Pick.none _))), rfl⟩ | exact ⟨(.leave (.leave (.take (Pick.none _)))), rfl⟩ | exact ⟨(.leave (.leave (.leave (.take (Pick.none _))))), rfl⟩ | exact ⟨(.leave (.leave (.leave (.leave (.take (Pick.none _)))))), rfl⟩ | exact ⟨(.leave (.leave (.leave (.leave (.leave (.take (Pick.none _))))))), rfl⟩ | exact ⟨(.leave (.leave (.leave (.leave (.leave (.leave (.take (Pick.none _)))))))), rfl⟩ | exact ⟨(.leave (.leave (.leave (.leave (.leave (.leave (.leave (.take (Pick.none _))))))))), rfl⟩ | exact ⟨(.leave (.leave (.leave (.leave (.leave (.leave (.leave (.leave (.take (Pick.none _)))))))))), rfl⟩ | exact ⟨(.leave (.leave (.leave (.leave (.leave (.leave (.leave (.leave (.leave (.take (Pick.none _))))))))))), rfl⟩) (by first | (exact Src.cel (by (solve | (repeat (first | exact List.Mem.head _ | apply List.Mem.tail)))) (by first | rfl | assumption | (simp only [List.length_map]; assumption) | (simp only [List.length_map, List.length_replicate, padK_len, padB_len, sha_length, dig_length, macCode_len, macTag_len]; done) | (simp; done))) | (exact Src.ownS (by (solve | (repeat (first | exact List.Mem.head _ | apply List.Mem.tail))))) | (exact Src.own (by (solve | (repeat (first | exact List.Mem.head _ | apply List.Mem.tail))))) | (exact Src.sls (by (solve | (repeat (first | exact List.Mem.head _ | apply List.Mem.tail))))) | (exact Src.celI (by (solve | (repeat (first | exact List.Mem.head _ | apply List.Mem.tail)))) (by first | rfl | assumption | (simp only [List.length_map]; assumption) | (simp only [List.length_map, List.length_replicate, padK_len, padB_len, sha_length, dig_length, macCode_len, macTag_len]; done) | (simp; done)))) (by first | exact one_map one8 _ | exact ones_spec rfl | exact one_map (fun _ => rfl) _ | (intro u hu; simp at hu; simp [hu, Value.oneCell'])) (by first | omega | (simp only [maxLen]; omega)) (by first | omega | (simp only [maxLen]; omega)) ?_
  intro ob1 cap1 ho1
  -- STOP: op; op 4: d=10 ["call", ["f", 117], [["t", 9]], [95]] guard=None (ref.go:27)
  rw [own_is (ob := ob1) (n' := (padB key 54#8 ++ b).length) (xs' := bytes (padB key 54#8 ++ b)) (List.length_append).symm (List.map_append (f := U8)).symm, ← List.length_append]
  refine RL.callv (rof_any (ob1.map fun b => ⟨b, 0, none⟩) cap1 (padB key 54#8 ++ b) (by rw [List.length_append]; omega)) Try.call117 rfl rfl rfl rfl (Lend.own (by repeat (first | exact List.Mem.head _ | apply List.Mem.tail)) .nil) ?_
  refine RL.alloc (cs := List.replicate 32 (U8 0#8)) Try.zeroValue133 rfl rfl rfl rfl rfl ?_
  intro b2
  refine RL.storeW Try.sizeOf133 rfl rfl rfl rfl rfl rfl rfl (by first | rfl | exact ones_map one8 _ | exact ones_map (fun _ => rfl) _) (by repeat (first | exact Upd.here | apply Upd.there)) (by first | rfl | assumption | (simp only [List.length_map]; assumption) | (simp only [List.length_map, List.length_replicate, padK_len, padB_len, sha_length, dig_length, macCode_len, macTag_len]; done) | (simp; done)) (by first | rfl | assumption | (simp only [List.length_map]; assumption) | (simp only [List.length_map, List.length_replicate, padK_len, padB_len, sha_length, dig_length, macCode_len, macTag_len]; done) | (simp; done)) ?_
  refine RL.nil ?_
  refine NQ.seq ?_
  refine CW.only (.cons (k := 0) rfl (.cons (k := 4) rfl (.cons (k := 5) rfl .nil))) ?_
  refine CW.seq ?_
  refine CW.regionD (Sq.of [0, 2, 1, 3, 4, 5]) [1, 3, 5] [3, 5] [0, 2] mixed (by kernel_rfl) ?_
  refine RL.move rfl rfl rfl rfl ?_
  refine RL.sliceAll Try.runUnderlying133 Try.sizeOf5 (by decide) rfl rfl rfl rfl ?_
  refine RL.call (rpad_any p kcap key hkb 92#8) Try.call192 rfl rfl rfl rfl rfl (by repeat (first | exact Pick.nil | apply Pick.take | apply Pick.leave)) (.inI (by repeat (first | exact List.Mem.head _ | apply List.Mem.tail)) .nil) (.inl rfl) ?_
  -- STOP: called; op 3: d=14 ["builtin", "Go.Builtin.append", [["t", 12], ["t", 13]], [95, 95]] guard=None (ref.go:28)
  rintro _ _ _ ⟨obB, cB, rfl, rfl, rfl, hoB⟩
  refine RL.appendA el_95 rfl rfl rfl rfl rfl rfl rfl (by first | exact ⟨(.take (Pick.none _)), rfl⟩ | exact ⟨(.leave (.take (Pick.none _))), rfl⟩ | exact ⟨(.leave (.leave (.take (Pick.none _)))), rfl⟩ | exact ⟨(.leave (.leave (.leave (.take (Pick.none _))))), rfl⟩ | exact ⟨(.leave (.leave (.leave (.leave (.take (Pick.none _)))))), rfl⟩ | exact ⟨(.leave (.leave (.leave (.leave (.leave (.take (Pick.none _))))))), rfl⟩ | exact ⟨(.leave (.leave (.leave (.leave (.leave (.leave (.take (Pick.none _)))))))), rfl⟩ | exact ⟨(.leave (.leave (.leave (.leave (.leave (.leave (.leave (.take (Pick.none _))))))))), rfl⟩ | exact ⟨(.leave (.leave (.leave (.leave (.leave (.leave (.leave (.leave (.take (Pick.none _)))))))))), rfl⟩ | exact ⟨(.leave (.leave (.leave (.leave (.leave (.leave (.leave (.leave (.leave (.take (Pick.none _))))))))))), rfl⟩) (by first | (exact Src.cel (by (solve | (repeat (first | exact List.Mem.head _ | apply List.Mem.tail)))) (by first | rfl | assumption | (simp only [List.length_map]; assumption) | (simp only [List.length_map, List.length_replicate, padK_len, padB_len, sha_length, dig_length, macCode_len, macTag_len]; done) | (simp; done))) | (exact Src.ownS (by (solve | (repeat (first | exact List.Mem.head _ | apply List.Mem.tail))))) | (exact Src.own (by (solve | (repeat (first | exact List.Mem.head _ | apply List.Mem.tail))))) | (exact Src.sls (by (solve | (repeat (first | exact List.Mem.head _ | apply List.Mem.tail))))) | (exact Src.celI (by (solve | (repeat (first | exact List.Mem.head _ | apply List.Mem.tail)))) (by first | rfl | assumption | (simp only [List.length_map]; assumption) | (simp only [List.length_map, List.length_replicate, padK_len, padB_len, sha_length, dig_length, macCode_len, macTag_len]; done) | (simp; done)))) (by first | exact one_map one8 _ | exact ones_spec rfl | exact one_map (fun _ => rfl) _ | (intro u hu; simp at hu; simp [hu, Value.oneCell'])) (by first | omega | (simp only [maxLen]; omega)) (by first | omega | (simp only [maxLen]; omega)) ?_
  intro ob2 cap2 ho2
  -- STOP: op; op 4: d=15 ["call", ["f", 117], [["t", 14]], [95]] guard=None (ref.go:28)
  rw [own_is (ob := ob2) (n' := (padB key 92#8 ++ sha (padB key 54#8 ++ b)).length) (xs' := bytes (padB key 92#8 ++ sha (padB key 54#8 ++ b))) (by rw [List.length_append, sha_length]) (List.map_append (f := U8)).symm,
    show (padB key 92#8).length + 32 = (padB key 92#8 ++ sha (padB key 54#8 ++ b)).length by rw [List.length_append, sha_length]]
  refine RL.callv (rof_any (ob2.map fun b => ⟨b, 0, none⟩) cap2 (padB key 92#8 ++ sha (padB key 54#8 ++ b)) (by rw [List.length_append, sha_length]; omega)) Try.call117 rfl rfl rfl rfl (Lend.own (by repeat (first | exact List.Mem.head _ | apply List.Mem.tail)) .nil) ?_
  refine RL.storeW Try.sizeOf133 rfl rfl rfl rfl rfl rfl rfl (by first | rfl | exact ones_map one8 _ | exact ones_map (fun _ => rfl) _) (by repeat (first | exact Upd.here | apply Upd.there)) (by first | rfl | assumption | (simp only [List.length_map]; assumption) | (simp only [List.length_map, List.length_replicate, padK_len, padB_len, sha_length, dig_length, macCode_len, macTag_len]; done) | (simp; done)) (by first | rfl | assumption | (simp only [List.length_map]; assumption) | (simp only [List.length_map, List.length_replicate, padK_len, padB_len, sha_length, dig_length, macCode_len, macTag_len]; done) | (simp; done)) ?_
  refine RL.nil ?_
  refine NQ.seq ?_
  refine CW.only (.cons (k := 4) rfl .nil) ?_
  refine CW.ret ?_
  -- STOP: ret; end
  exact RQ.post (resW rfl rfl Try.isAgg133 Try.sizeOf133 (by repeat (first | exact List.Mem.head _ | apply List.Mem.tail)) (by first | rfl | assumption | (simp only [List.length_map]; assumption) | (simp only [List.length_map, List.length_replicate, padK_len, padB_len, sha_length, dig_length, macCode_len, macTag_len]; done) | (simp; done))) (Split.none _) ⟨rfl, rfl, rfl⟩
theorem rcode_n (p : Option Addr) (n kcap : Nat) (key : List B8) (hk : key.length = n) (hkb : n ≤ 1000000000) (q : Option Addr) (m cap : Nat) (b : List B8) (hm : b.length = m) (hb : m ≤ 100000000) :
    Spc Try.prog 150 #[.slice p n kcap, .slice q m cap] [sls p 1 n (bytes key), sls q 1 m (bytes b)] [] (Is (.agg (bytes (macCode key b)).toArray)) := by
  subst hk; subst hm; exact rcode_any p kcap key hkb q cap b hb

theorem tag_any (k : List B8) (hk : k.length = 32) (pp : Option Addr) (qn cap : Nat) (qs : List Part) (hq : qs.length = qn) (hn : qn ≤ 1000000) (hb : (joined qs).length ≤ 100000000) :
    Spc Try.prog 97 #[.agg (bytes k).toArray, .slice pp qn cap] (sls pp 1 qn (qs.map Part.v) :: qs.map Part.i) [] (Is (.agg (bytes (macTag k (joined qs))).toArray)) := by
  refine Spc.enter Try.func97 rfl rfl rfl (fun w0 hw0 => ?_)
  refine CW.seq ?_
  refine CW.region (ef := [0, 1]) (bk := []) ?_
  refine RL.box rfl rfl rfl rfl rfl rfl ?_
  intro b1
  refine RL.alloc Try.zeroValue97 rfl rfl rfl rfl rfl ?_
  intro b2
  refine RL.nil ?_
  refine NQ.seq ?_
  refine CW.seq ?_
  refine CW.region (ef := [3, 4]) (bk := [4]) ?_
  refine RL.sliceAll Try.runUnderlying35 Try.sizeOf5 (by decide) rfl rfl rfl rfl ?_
  refine RL.move rfl rfl rfl rfl ?_
  refine RL.callv (code_n (some ⟨b1, 0, none⟩) 32 32 k hk (by decide) pp qn cap qs hq hn hb) Try.call147 rfl rfl rfl rfl (Lend.all (by repeat (first | exact List.Mem.head _ | apply List.Mem.tail)) (by simp [hk]) (Lend.many (fun _ h => h))) ?_
  refine RL.alloc (cs := List.replicate 32 (U8 0#8)) Try.zeroValue133 rfl rfl rfl rfl rfl ?_
  intro b3
  refine RL.storeW Try.sizeOf133 rfl rfl rfl rfl rfl rfl rfl (by first | rfl | exact ones_map one8 _ | exact ones_map (fun _ => rfl) _) (by repeat (first | exact Upd.here | apply Upd.there)) (by first | rfl | assumption | (simp only [List.length_map]; assumption) | (simp only [List.length_map, List.length_replicate, padK_len, padB_len, sha_length, dig_length, macCode_len, macTag_len]; done) | (simp; done)) (by first | rfl | assumption | (simp only [List.length_map]; assumption) | (simp only [List.length_map, List.length_replicate, padK_len, padB_len, sha_length, dig_length, macCode_len, macTag_len]; done) | (simp; done)) ?_
  refine RL.nil ?_
  refine NQ.seq ?_
  refine CW.only (.cons (k := 4) rfl (.cons (k := 5) rfl .nil)) ?_
  refine CW.seq ?_
  refine CW.region (ef := [3]) (bk := [3]) ?_
  -- STOP: op; op 0: d=9 ["slice", 133, ["t", 5], null, ["c", ["int", "Go.IntKind.i64", 16]], null] guard=None (mac.go:44)
  refine RL.sliceA (lo := 0) (hi := 16) Try.runUnderlying133 Try.sizeOf5 rfl rfl rfl rfl rfl rfl (by decide) (by decide) (by decide) ?_
  refine RL.toArr Try.runUnderlying97 rfl rfl rfl rfl (by first | decide | omega) ?_
  -- STOP: op; op 2: d=11 ["load", 97, ["t", 10]] guard=None (mac.go:44)
  refine RL.loadP (off := 0) Try.isAgg97 Try.sizeOf97 rfl rfl rfl rfl (cs := bytes (macCode k (joined qs))) (by repeat (first | exact List.Mem.head _ | apply List.Mem.tail)) (by simp [macCode_len]) ?_
  refine RL.storeW Try.sizeOf97 rfl rfl rfl rfl rfl rfl rfl (by first | rfl | exact ones_map one8 _ | exact ones_map (fun _ => rfl) _) (by repeat (first | exact Upd.here | apply Upd.there)) (by first | rfl | assumption | (simp only [List.length_map]; assumption) | (simp only [List.length_map, List.length_replicate, padK_len, padB_len, sha_length, dig_length, macCode_len, macTag_len]; done) | (simp; done)) (by first | rfl | assumption | (simp only [List.length_map]; assumption) | (simp only [List.length_map, List.length_replicate, padK_len, padB_len, sha_length, dig_length, macCode_len, macTag_len]; done) | (simp; done)) ?_
  refine RL.nil ?_
  refine NQ.seq ?_
  refine CW.ret ?_
  -- STOP: ret; end
  rw [show ((bytes (macCode k (joined qs))).drop 0).take 16 = bytes (macTag k (joined qs)) by rw [List.drop_zero, macTag, bytes_take]]
  -- STOP: end; end
  exact RQ.post (resW rfl rfl Try.isAgg97 Try.sizeOf97 (by repeat (first | exact List.Mem.head _ | apply List.Mem.tail)) (by first | rfl | assumption | (simp only [List.length_map]; assumption) | (simp only [List.length_map, List.length_replicate, padK_len, padB_len, sha_length, dig_length, macCode_len, macTag_len]; done) | (simp; done))) (Split.none _) ⟨rfl, rfl, rfl⟩

theorem rtag_any (k : List B8) (hk : k.length = 32) (q : Option Addr) (m cap : Nat) (b : List B8) (hm : b.length = m) (hb : m ≤ 100000000) :
    Spc Try.prog 100 #[.agg (bytes k).toArray, .slice q m cap] [sls q 1 m (bytes b)] [] (Is (.agg (bytes (macTag k b)).toArray)) := by
  refine Spc.enter Try.func100 rfl rfl rfl (fun w0 hw0 => ?_)
  refine CW.seq ?_
  refine CW.region (ef := [0, 1]) (bk := []) ?_
  refine RL.box rfl rfl rfl rfl rfl rfl ?_
  intro b1
  refine RL.alloc Try.zeroValue97 rfl rfl rfl rfl rfl ?_
  intro b2
  refine RL.nil ?_
  refine NQ.seq ?_
  refine CW.seq ?_
  refine CW.region (ef := [3, 4]) (bk := [4]) ?_
  refine RL.sliceAll Try.runUnderlying35 Try.sizeOf5 (by decide) rfl rfl rfl rfl ?_
  refine RL.move rfl rfl rfl rfl ?_
  refine RL.callv (rcode_n (some ⟨b1, 0, none⟩) 32 32 k hk (by decide) q m cap b hm hb) Try.call150 rfl rfl rfl rfl (Lend.all (by repeat (first | exact List.Mem.head _ | apply List.Mem.tail)) (by simp [hk]) (Lend.many (fun _ h => h))) ?_
  refine RL.alloc (cs := List.replicate 32 (U8 0#8)) Try.zeroValue133 rfl rfl rfl rfl rfl ?_
  intro b3
  refine RL.storeW Try.sizeOf133 rfl rfl rfl rfl rfl rfl rfl (by first | rfl | exact ones_map one8 _ | exact ones_map (fun _ => rfl) _) (by repeat (first | exact Upd.here | apply Upd.there)) (by first | rfl | assumption | (simp only [List.length_map]; assumption) | (simp only [List.length_map, List.length_replicate, padK_len, padB_len, sha_length, dig_length, macCode_len, macTag_len]; done) | (simp; done)) (by first | rfl | assumption | (simp only [List.length_map]; assumption) | (simp only [List.length_map, List.length_replicate, padK_len, padB_len, sha_length, dig_length, macCode_len, macTag_len]; done) | (simp; done)) ?_
  refine RL.nil ?_
  refine NQ.seq ?_
  refine CW.only (.cons (k := 4) rfl (.cons (k := 5) rfl .nil)) ?_
  refine CW.seq ?_
  refine CW.region (ef := [1, 2]) (bk := [2]) ?_
  refine RL.buildA _ Try.zeroValue97 Try.runUnderlying97 Try.sizeOf5 rfl rfl rfl rfl rfl ?_
  refine RL.alloc Try.zeroValue97 rfl rfl rfl rfl rfl ?_
  intro b4
  refine RL.storeW Try.sizeOf97 rfl rfl rfl rfl rfl rfl rfl (by first | rfl | exact ones_map one8 _ | exact ones_map (fun _ => rfl) _) (by repeat (first | exact Upd.here | apply Upd.there)) (by first | rfl | assumption | (simp only [List.length_map]; assumption) | (simp only [List.length_map, List.length_replicate, padK_len, padB_len, sha_length, dig_length, macCode_len, macTag_len]; done) | (simp; done)) (by first | rfl | assumption | (simp only [List.length_map]; assumption) | (simp only [List.length_map, List.length_replicate, padK_len, padB_len, sha_length, dig_length, macCode_len, macTag_len]; done) | (simp; done)) ?_
  refine RL.nil ?_
  refine NQ.seq ?_
  refine CW.seq ?_
  refine CW.seq ?_
  refine CW.region (ef := []) (bk := []) ?_
  refine RL.assign rfl rfl rfl rfl ?_
  refine RL.nil ?_
  refine NQ.seq ?_
  refine CW.block ?_
  -- STOP: loop; todo top: ["code", ["loop", ["seq", ["seq", ["region", 4, [{"d": 12, "op": ["move", ["t", 7]], "ty": 3, "pos": "ref.go:35", "after": [], "guard": null}, {"d": 13, "op": ["binOp", "Go.BinOp.lss", 3, ["t", 12], [
  refine CW.loop (γ := Nat) (fun i => i ≤ 16) (fun i => [(4, .pointer (some ⟨b2, 0, none⟩)), (5, .pointer (some ⟨b3, 0, none⟩)), (6, .pointer (some ⟨b4, 0, none⟩)), (7, .int .i64 (i : Int))]) (fun _ => [])
    (fun i => [cel b4 ((bytes (macTag k b)).take i ++ (List.replicate 16 (U8 0#8)).drop i) 97, cel b3 (bytes (macCode k b)) 133, cel b2 (List.replicate 16 (U8 0#8)) 97]) (fun i => 16 - i) 0 (by omega)
    (.cons rfl (.cons rfl (.cons rfl (.cons rfl .nil)))) (fun _ h => h.rea (fun _ h => by cases h) (by repeat (first | exact Rea.nil | (apply Rea.cons; (solve | (repeat (first | exact Del.here | apply Del.there))))))) ?_
  intro i hi
  have l1 := macTag_len k b
  have l2 := macCode_len k b
  refine CW.seq ?_
  refine CW.seq ?_
  refine CW.region (ef := []) (bk := []) ?_
  refine RL.move rfl rfl rfl rfl ?_
  refine RL.bin rfl rfl rfl rfl rfl rfl ?_
  refine RL.nil ?_
  refine NQ.seq ?_
  -- STOP: if; todo top: ["code", ["cond", ["t", 13], ["skip"], ["exit", 0]]]
  refine CW.cond rfl (fun hlt => ?_) (fun hlt => ?_)
  ·
    refine CW.skip ?_
    refine NQ.seq ?_
    refine CW.seq ?_
    refine CW.block ?_
    refine CW.region (ef := [5]) (bk := [5]) ?_
    refine RL.move rfl rfl rfl rfl ?_
    refine RL.move rfl rfl rfl rfl ?_
    -- STOP: op; op 2: d=18 ["indexAddr", 133, ["t", 5], ["t", 17]] guard=None (ref.go:36)
    have hlt : i < 16 := by simp at hlt; omega
    have g1 : (bytes (macCode k b))[0 + i * 1]? = some (U8 ((macCode k b).getD i 0)) := by rw [Nat.zero_add, Nat.mul_one]; exact bytes_get (by omega)
    have g2 : (bytes (macTag k b))[i]? = some (U8 ((macCode k b).getD i 0)) := by
      rw [macTag, ← bytes_take, List.getElem?_take, if_pos hlt]; exact bytes_get (by omega)
    refine RL.idxAAt (j := i) Try.runUnderlying133 Try.sizeOf5 rfl rfl rfl rfl rfl rfl (by omega) ?_
    refine RL.load Try.isAgg5 rfl rfl rfl rfl (by first | assumption | (apply RdI.rd; assumption) | (apply Rd.get; (solve | (repeat (first | exact List.Mem.head _ | apply List.Mem.tail))); assumption) | (apply Rd.getS; (solve | (repeat (first | exact List.Mem.head _ | apply List.Mem.tail))); assumption) | (apply Rd.getO; (solve | (repeat (first | exact List.Mem.head _ | apply List.Mem.tail))); assumption) | (apply Rd.getI; (solve | (repeat (first | exact List.Mem.head _ | apply List.Mem.tail))); assumption) | (apply Rd.cel; (solve | (repeat (first | exact List.Mem.head _ | apply List.Mem.tail))); exact rfl) | (apply Rd.celI; (solve | (repeat (first | exact List.Mem.head _ | apply List.Mem.tail))); exact rfl)) ?_
    -- STOP: op; op 4: d=20 ["indexAddr", 97, ["t", 6], ["t", 16]] guard=None (ref.go:36)
    refine RL.idxAAt (j := i) Try.runUnderlying97 Try.sizeOf5 rfl rfl rfl rfl rfl rfl hlt ?_
    -- STOP: op; op 5: d=None ["store", 5, ["t", 20], ["t", 19]] guard=None (ref.go:36)
    refine RL.storeX (cs' := (bytes (macTag k b)).take (i + 1) ++ (List.replicate 16 (U8 0#8)).drop (i + 1)) (vs := [_]) (spl_mix (by simp [macTag_len]) g2) Try.sizeOf5 rfl rfl rfl rfl rfl rfl rfl rfl (by repeat (first | exact Upd.here | apply Upd.there)) (by simp [macTag_len]; omega) ?_
    refine RL.nil ?_
    refine NQ.block ?_
    refine NQ.seq ?_
    refine CW.only (.cons (k := 4) rfl (.cons (k := 5) rfl (.cons (k := 6) rfl (.cons (k := 7) rfl .nil)))) ?_
    refine CW.region (ef := []) (bk := []) ?_
    refine RL.move rfl rfl rfl rfl ?_
    refine RL.binX rfl rfl rfl rfl rfl rfl (wrapV_i64 (by omega) (by omega)) ?_
    refine RL.assign rfl rfl rfl rfl ?_
    refine RL.nil ?_
    -- STOP: round; todo top: ["N"]
    exact NQ.round (g := i) (i + 1) hlt (by omega) (.cons rfl (.cons rfl (.cons rfl (.cons rfl .nil)))) (fun _ h => h)
  ·
    have hi16 : i = 16 := by simp at hlt; omega
    subst hi16
    rw [List.take_of_length_le (by simp [macTag_len]), List.drop_of_length_le (by simp), List.append_nil]
    refine CW.exit ?_
    refine XQ.seq ?_
    refine XQ.seq ?_
    refine XQ.hit ?_
    refine NQ.seq ?_
    refine CW.seq ?_
    refine CW.region (ef := [1]) (bk := [1]) ?_
    refine RL.loadW Try.isAgg97 Try.sizeOf97 rfl rfl rfl rfl (by repeat (first | exact List.Mem.head _ | apply List.Mem.tail)) (by first | rfl | assumption | (simp only [List.length_map]; assumption) | (simp only [List.length_map, List.length_replicate, padK_len, padB_len, sha_length, dig_length, macCode_len, macTag_len]; done) | (simp; done)) ?_
    refine RL.storeW Try.sizeOf97 rfl rfl rfl rfl rfl rfl rfl (by first | rfl | exact ones_map one8 _ | exact ones_map (fun _ => rfl) _) (by repeat (first | exact Upd.here | apply Upd.there)) (by first | rfl | assumption | (simp only [List.length_map]; assumption) | (simp only [List.length_map, List.length_replicate, padK_len, padB_len, sha_length, dig_length, macCode_len, macTag_len]; done) | (simp; done)) (by first | rfl | assumption | (simp only [List.length_map]; assumption) | (simp only [List.length_map, List.length_replicate, padK_len, padB_len, sha_length, dig_length, macCode_len, macTag_len]; done) | (simp; done)) ?_
    refine RL.nil ?_
    refine NQ.seq ?_
    refine CW.only (.cons (k := 4) rfl .nil) ?_
    refine CW.ret ?_
    -- STOP: ret; end
    exact RQ.post (resW rfl rfl Try.isAgg97 Try.sizeOf97 (by repeat (first | exact List.Mem.head _ | apply List.Mem.tail)) (by first | rfl | assumption | (simp only [List.length_map]; assumption) | (simp only [List.length_map, List.length_replicate, padK_len, padB_len, sha_length, dig_length, macCode_len, macTag_len]; done) | (simp; done))) (Split.none _) ⟨rfl, rfl, rfl⟩

def oddN (a b : List B8) : Nat → B8
  | 0 => 0#8
  | j + 1 => oddN a b j ||| (a.getD j 0 ^^^ b.getD j 0)
theorem odd_zero (a b : List B8) : ∀ j, oddN a b j = 0#8 ↔ ∀ i, i < j → a.getD i 0 = b.getD i 0
  | 0 => by simp [oddN]
  | j + 1 => by
    rw [oddN, BitVec.or_eq_zero_iff, odd_zero a b j, BitVec.xor_eq_zero_iff]
    constructor
    · rintro ⟨h1, h2⟩ i hi
      by_cases he : i = j
      · subst he; exact h2
      · exact h1 i (by omega)
    · intro h
      exact ⟨fun i hi => h i (by omega), h j (by omega)⟩
theorem odd_same (a b : List B8) (hl : a.length = b.length) : (((oddN a b a.length).toNat : Int) == 0) = (a == b) := by
  have h1 : (((oddN a b a.length).toNat : Int) == 0) = true ↔ oddN a b a.length = 0#8 := by
    rw [beq_iff_eq]
    constructor
    · intro h; apply BitVec.eq_of_toNat_eq; simp at h ⊢; omega
    · intro h; rw [h]; rfl
  rw [Bool.eq_iff_iff, h1, odd_zero, beq_iff_eq]
  constructor
  · intro h
    apply List.ext_getElem hl
    intro i h1 h2
    have := h i h1
    rw [List.getD_eq_getElem?_getD, List.getD_eq_getElem?_getD] at this
    simpa [h1, h2] using this
  · rintro rfl i _; rfl
theorem sls_some {p : Option Addr} {n : Nat} (h : p = none → n = 0) (hn : n ≠ 0) : ∃ a, p = some a := by
  cases p with
  | none => exact absurd (h rfl) hn
  | some a => exact ⟨a, rfl⟩

theorem equal_any (p q : Option Addr) (n m c1 c2 : Nat) (a b : List B8) (hn : a.length = n) (hm : b.length = m) (hb : n ≤ 1000000000) :
    Spc Try.prog 235 #[.slice p n c1, .slice q m c2] [sls p 1 n (bytes a), sls q 1 m (bytes b)] [] (Is (.bool (a == b))) := by
  subst hn; subst hm
  refine Spc.enter Try.func235 rfl rfl rfl (fun w0 hw0 => ?_)
  refine CW.seq ?_
  refine CW.region (ef := []) (bk := []) ?_
  refine RL.assign rfl rfl rfl rfl ?_
  refine RL.nil ?_
  refine NQ.seq ?_
  refine CW.seq ?_
  refine CW.seq ?_
  refine CW.region (ef := []) (bk := []) ?_
  refine RL.move rfl rfl rfl rfl ?_
  refine RL.lenS Try.runUnderlying95 rfl rfl rfl rfl ?_
  refine RL.move rfl rfl rfl rfl ?_
  refine RL.lenS Try.runUnderlying95 rfl rfl rfl rfl ?_
  refine RL.bin rfl rfl rfl rfl rfl rfl ?_
  refine RL.nil ?_
  refine NQ.seq ?_
  -- STOP: if; todo top: ["code", ["cond", ["t", 12], ["seq", ["region", 2, [{"d": 4, "op": ["assign", ["c", ["bool", false]]], "ty": 4, "pos": "mac.go:56", "after": [], "guard": null}], false], ["ret"]], ["skip"]]]
  refine CW.cond rfl (fun hne => ?_) (fun hne => ?_)
  ·
    refine CW.seq ?_
    refine CW.region (ef := []) (bk := []) ?_
    refine RL.assign rfl rfl rfl rfl ?_
    refine RL.nil ?_
    refine NQ.seq ?_
    refine CW.ret ?_
    refine RQ.seq ?_
    -- STOP: ret; end
    have hne : a ≠ b := fun h => by subst h; simp at hne
    exact RQ.post (res1 rfl rfl) (Split.none _) ⟨by simp [hne], rfl, rfl⟩
  ·
    have hl : a.length = b.length := by simp at hne; omega
    refine CW.fact (p := (p = none → a.length = 0) ∧ (q = none → b.length = 0)) (fun w hC => ⟨fun e => sls_nil (hC.s.i (sls p 1 a.length (bytes a)) (by repeat (first | exact List.Mem.head _ | apply List.Mem.tail))) e, fun e => sls_nil (hC.s.i (sls q 1 b.length (bytes b)) (by repeat (first | exact List.Mem.head _ | apply List.Mem.tail))) e⟩) (fun hpq => ?_)
    refine CW.skip ?_
    refine NQ.seq ?_
    refine CW.only (.cons (k := 0) rfl (.cons (k := 1) rfl .nil)) ?_
    refine CW.seq ?_
    refine CW.region (ef := []) (bk := []) ?_
    refine RL.assign rfl rfl rfl rfl ?_
    refine RL.nil ?_
    refine NQ.seq ?_
    refine CW.seq ?_
    refine CW.seq ?_
    refine CW.region (ef := []) (bk := []) ?_
    refine RL.move rfl rfl rfl rfl ?_
    refine RL.lenS Try.runUnderlying95 rfl rfl rfl rfl ?_
    refine RL.move rfl rfl rfl rfl ?_
    refine RL.nil ?_
    refine NQ.seq ?_
    refine CW.block ?_
    -- STOP: loop; todo top: ["code", ["loop", ["seq", ["region", 5, [{"d": 16, "op": ["binOp", "Go.BinOp.lss", 3, ["t", 15], ["t", 14], 3], "ty": 0, "pos": "mac.go:59", "after": [], "guard": null}], false], ["seq", ["cond", ["t"
    refine CW.loop (γ := Nat) (fun i => i ≤ a.length) (fun i => [(1, .slice q b.length c2), (5, U8 (oddN a b i)), (13, .slice p a.length c1), (14, .int .i64 (a.length : Int)), (15, .int .i64 (i : Int))])
      (fun _ => [sls p 1 a.length (bytes a), sls q 1 b.length (bytes b)]) (fun _ => []) (fun i => a.length - i) 0 (by omega) (.cons rfl (.cons rfl (.cons rfl (.cons rfl (.cons rfl .nil))))) (fun _ h => h) ?_
    intro i hi
    refine CW.seq ?_
    refine CW.region (ef := []) (bk := []) ?_
    refine RL.bin rfl rfl rfl rfl rfl rfl ?_
    refine RL.nil ?_
    refine NQ.seq ?_
    refine CW.seq ?_
    -- STOP: if; todo top: ["code", ["cond", ["t", 16], ["skip"], ["exit", 0]]]
    refine CW.cond rfl (fun hlt => ?_) (fun hlt => ?_)
    ·
      refine CW.skip ?_
      refine NQ.seq ?_
      refine CW.seq ?_
      refine CW.block ?_
      refine CW.seq ?_
      refine CW.region (ef := []) (bk := []) ?_
      refine RL.move rfl rfl rfl rfl ?_
      -- STOP: op; op 1: d=18 ["indexAddr", 95, ["t", 13], ["t", 15]] guard=None (mac.go:59)
      have hlt : i < a.length := by simp at hlt; omega
      obtain ⟨pa, rfl⟩ := sls_some hpq.1 (by omega)
      obtain ⟨qa, rfl⟩ := sls_some hpq.2 (by omega)
      have g1 : (bytes a)[i * 1]? = some (U8 (a.getD i 0)) := by rw [Nat.mul_one]; exact bytes_get hlt
      have g2 : (bytes b)[i * 1]? = some (U8 (b.getD i 0)) := by rw [Nat.mul_one]; exact bytes_get (by omega)
      refine RL.idx (j := i) Try.runUnderlying95 Try.sizeOf5 rfl rfl rfl rfl rfl rfl hlt ?_
      -- STOP: op; op 2: d=19 ["load", 5, ["t", 18]] guard=None (mac.go:59)
      refine RL.load Try.isAgg5 rfl rfl rfl rfl (Rd.getS (List.Mem.head _) g1) ?_
      refine RL.assign rfl rfl rfl rfl ?_
      refine RL.assign rfl rfl rfl rfl ?_
      refine RL.nil ?_
      refine NQ.seq ?_
      refine CW.region (ef := []) (bk := []) ?_
      refine RL.move rfl rfl rfl rfl ?_
      refine RL.move rfl rfl rfl rfl ?_
      refine RL.move rfl rfl rfl rfl ?_
      refine RL.move rfl rfl rfl rfl ?_
      -- STOP: op; op 4: d=24 ["indexAddr", 95, ["t", 22], ["t", 23]] guard=None (mac.go:60)
      refine RL.idx (j := i) Try.runUnderlying95 Try.sizeOf5 rfl rfl rfl rfl rfl rfl (by omega) ?_
      -- STOP: op; op 5: d=25 ["load", 5, ["t", 24]] guard=None (mac.go:60)
      refine RL.load Try.isAgg5 rfl rfl rfl rfl (Rd.getS (List.Mem.tail _ (List.Mem.head _)) g2) ?_
      refine RL.bv8 (a := _) (b := _) xor8 rfl rfl rfl rfl rfl ?_
      refine RL.bv8 (a := _) (b := _) or8 rfl rfl rfl rfl rfl ?_
      refine RL.assign rfl rfl rfl rfl ?_
      refine RL.nil ?_
      refine NQ.block ?_
      refine NQ.seq ?_
      refine CW.only (.cons (k := 1) rfl (.cons (k := 5) rfl (.cons (k := 13) rfl (.cons (k := 14) rfl (.cons (k := 15) rfl .nil))))) ?_
      refine CW.region (ef := []) (bk := []) ?_
      refine RL.binX rfl rfl rfl rfl rfl rfl (wrapV_i64 (by omega) (by omega)) ?_
      refine RL.move rfl rfl rfl rfl ?_
      refine RL.nil ?_
      -- STOP: round; todo top: ["N"]
      exact NQ.round (g := i) (i + 1) hlt (by omega) (.cons rfl (.cons rfl (.cons rfl (.cons rfl (.cons rfl .nil))))) (fun _ h => h)
    ·
      refine CW.exit ?_
      refine XQ.seq ?_
      refine XQ.seq ?_
      refine XQ.hit ?_
      refine NQ.seq ?_
      refine CW.seq ?_
      refine CW.region (ef := []) (bk := []) ?_
      refine RL.move rfl rfl rfl rfl ?_
      refine RL.bin rfl rfl rfl rfl rfl rfl ?_
      refine RL.assign rfl rfl rfl rfl ?_
      refine RL.nil ?_
      refine NQ.seq ?_
      refine CW.only (.cons (k := 4) rfl .nil) ?_
      refine CW.ret ?_
      -- STOP: ret; end
      have hil : i = a.length := by simp at hlt; omega
      subst hil
      exact RQ.post (res1 rfl rfl) (Split.none _) ⟨by rw [← odd_same a b hl], rfl, rfl⟩

theorem right_any (k : List B8) (hk : k.length = 32) (tg : List B8) (ht : tg.length = 16) (pp : Option Addr) (qn cap : Nat) (qs : List Part) (hq : qs.length = qn) (hn : qn ≤ 1000000) (hb : (joined qs).length ≤ 100000000) :
    Spc Try.prog 206 #[.agg (bytes k).toArray, .agg (bytes tg).toArray, .slice pp qn cap] (sls pp 1 qn (qs.map Part.v) :: qs.map Part.i) [] (Is (.bool (tg == macTag k (joined qs)))) := by
  refine Spc.enter Try.func206 rfl rfl rfl (fun w0 hw0 => ?_)
  refine CW.seq ?_
  refine CW.region (ef := [0, 1]) (bk := []) ?_
  refine RL.box rfl rfl rfl rfl rfl rfl ?_
  intro b1
  refine RL.box rfl rfl rfl rfl rfl rfl ?_
  intro b2
  refine RL.assign rfl rfl rfl rfl ?_
  refine RL.nil ?_
  refine NQ.seq ?_
  refine CW.seq ?_
  refine CW.region (ef := [3, 4]) (bk := [4]) ?_
  refine RL.loadW Try.isAgg35 Try.sizeOf35 rfl rfl rfl rfl (by repeat (first | exact List.Mem.head _ | apply List.Mem.tail)) (by first | rfl | assumption | (simp only [List.length_map]; assumption) | (simp only [List.length_map, List.length_replicate, padK_len, padB_len, sha_length, dig_length, macCode_len, macTag_len]; done) | (simp; done)) ?_
  refine RL.move rfl rfl rfl rfl ?_
  refine RL.callv (tag_any k hk pp qn cap qs hq hn hb) Try.call97 rfl rfl rfl rfl (Lend.many (fun _ h => h)) ?_
  refine RL.alloc Try.zeroValue97 rfl rfl rfl rfl rfl ?_
  intro b3
  refine RL.storeW Try.sizeOf97 rfl rfl rfl rfl rfl rfl rfl (by first | rfl | exact ones_map one8 _ | exact ones_map (fun _ => rfl) _) (by repeat (first | exact Upd.here | apply Upd.there)) (by first | rfl | assumption | (simp only [List.length_map]; assumption) | (simp only [List.length_map, List.length_replicate, padK_len, padB_len, sha_length, dig_length, macCode_len, macTag_len]; done) | (simp; done)) (by first | rfl | assumption | (simp only [List.length_map]; assumption) | (simp only [List.length_map, List.length_replicate, padK_len, padB_len, sha_length, dig_length, macCode_len, macTag_len]; done) | (simp; done)) ?_
  refine RL.nil ?_
  refine NQ.seq ?_
  refine CW.only (.cons (k := 4) rfl (.cons (k := 7) rfl .nil)) ?_
  refine CW.seq ?_
  refine CW.regionD (Sq.of [0, 1, 2, 3]) [] [] [0, 1, 3] mixed (by kernel_rfl) ?_
  refine RL.sliceAll Try.runUnderlying97 Try.sizeOf5 (by decide) rfl rfl rfl rfl ?_
  refine RL.sliceAll Try.runUnderlying97 Try.sizeOf5 (by decide) rfl rfl rfl rfl ?_
  refine RL.callv (equal_any (some ⟨b2, 0, none⟩) (some ⟨b3, 0, none⟩) 16 16 16 16 tg (macTag k (joined qs)) ht (macTag_len _ _) (by decide)) Try.call235 rfl rfl rfl rfl (Lend.all (by repeat (first | exact List.Mem.head _ | apply List.Mem.tail)) (by simp [ht]) (Lend.all (by repeat (first | exact List.Mem.head _ | apply List.Mem.tail)) (by simp [macTag_len]) .nil)) ?_
  refine RL.assign rfl rfl rfl rfl ?_
  refine RL.nil ?_
  refine NQ.seq ?_
  refine CW.ret ?_
  -- STOP: ret; end
  exact RQ.post (res1 rfl rfl) (Split.none _) ⟨rfl, rfl, rfl⟩
end Go.Proofs.Ytkkfdoippibfkaa
