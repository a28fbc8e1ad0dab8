import Derived.Test.YtkkfdoippibfkaaMacCode
namespace Go.Proofs.Ytkkfdoippibfkaa
open Go.PK

theorem tellN {ob : Option Nat} {cap sz n : Nat} {e : TypeId} {xs : List Value} {w : World} (h : (own ob cap e sz n xs).A w) (hn : n ≠ 0) : ob.isSome = true := by
  cases ob with
  | none => exact absurd h.2.1 hn
  | some b => rfl

theorem rpad_any (p : Option Addr) (cap : Nat) (key : List B8) (hb : key.length ≤ 1000000000) (x : B8) : Spc Try.prog 192 #[.slice p key.length cap, U8 x] [sls p 1 key.length (bytes key)] [] (OwnB (padB key x)) := by
  refine Spc.enter Try.func192 rfl rfl rfl (fun w0 hw0 => ?_)
  refine CW.seq ?_
  refine CW.region (ef := []) (bk := []) ?_
  refine RL.assign rfl rfl rfl rfl ?_
  refine RL.nil ?_
  refine NQ.seq ?_
  refine CW.seq ?_
  refine CW.region (ef := [0, 2]) (bk := [2]) ?_
  refine RL.buildOwn [] Try.runUnderlying95 Try.sizeOf5 Try.zeroValue5 rfl rfl (by decide) (by decide) rfl (by decide) rfl rfl rfl rfl rfl rfl ?_
  intro b1
  refine RL.move rfl rfl rfl rfl ?_
  refine RL.appendA el_95 rfl rfl rfl rfl rfl rfl rfl (by first | exact ⟨(.take (Pick.none _)), rfl⟩ | exact ⟨(.leave (.take (Pick.none _))), rfl⟩ | exact ⟨(.leave (.leave (.take (Pick.none _)))), rfl⟩ | exact ⟨(.leave (.leave (.leave (.take (Pick.none _))))), rfl⟩ | exact ⟨(.leave (.leave (.leave (.leave (.take (Pick.none _)))))), rfl⟩ | exact ⟨(.leave (.leave (.leave (.leave (.leave (.take (Pick.none _))))))), rfl⟩ | exact ⟨(.leave (.leave (.leave (.leave (.leave (.leave (.take (Pick.none _)))))))), rfl⟩ | exact ⟨(.leave (.leave (.leave (.leave (.leave (.leave (.leave (.take (Pick.none _))))))))), rfl⟩ | exact ⟨(.leave (.leave (.leave (.leave (.leave (.leave (.leave (.leave (.take (Pick.none _)))))))))), rfl⟩ | exact ⟨(.leave (.leave (.leave (.leave (.leave (.leave (.leave (.leave (.leave (.take (Pick.none _))))))))))), rfl⟩) (by first | (exact Src.cel (by (solve | (repeat (first | exact List.Mem.head _ | apply List.Mem.tail)))) (by first | rfl | assumption | (simp only [List.length_map]; assumption) | (simp only [List.length_map, List.length_replicate, padK_len, padB_len, sha_length, dig_length, macCode_len]; done) | (simp; done))) | (exact Src.ownS (by (solve | (repeat (first | exact List.Mem.head _ | apply List.Mem.tail))))) | (exact Src.own (by (solve | (repeat (first | exact List.Mem.head _ | apply List.Mem.tail))))) | (exact Src.sls (by (solve | (repeat (first | exact List.Mem.head _ | apply List.Mem.tail))))) | (exact Src.celI (by (solve | (repeat (first | exact List.Mem.head _ | apply List.Mem.tail)))) (by first | rfl | assumption | (simp only [List.length_map]; assumption) | (simp only [List.length_map, List.length_replicate, padK_len, padB_len, sha_length, dig_length, macCode_len]; done) | (simp; done)))) (by first | exact one_map one8 _ | exact ones_spec rfl | exact one_map (fun _ => rfl) _ | (intro u hu; simp at hu; simp [hu, Value.oneCell'])) (by first | omega | (simp only [maxLen]; omega)) (by first | omega | (simp only [maxLen]; omega)) ?_
  intro ob1 cap1 ho1
  refine RL.assign rfl rfl rfl rfl ?_
  refine RL.nil ?_
  refine NQ.seq ?_
  refine CW.seq ?_
  refine CW.seq ?_
  refine CW.region (ef := []) (bk := []) ?_
  refine RL.move rfl rfl rfl rfl ?_
  refine RL.lenS Try.runUnderlying95 rfl rfl rfl rfl ?_
  refine RL.bin rfl rfl rfl rfl rfl rfl ?_
  refine RL.nil ?_
  refine NQ.seq ?_
  -- STOP: if; todo top: ["code", ["cond", ["t", 13], ["seq", ["region", 3, [{"d": 14, "op": ["move", ["t", 0]], "ty": 95, "pos": "ref.go:13", "after": [], "guard": null}, {"d": 15, "op": ["call", ["f", 117], [["t", 14]], [95
  refine CW.cond rfl (fun hl => ?_) (fun hl => ?_)
  ·
    have hl : 64 < key.length := by simp at hl; omega
    have hk : kk key = sha key := by rw [kk, if_pos hl]
    have hkl : (sha key).length ≤ 64 := by rw [sha_length]; omega
    refine CW.seq ?_
    refine CW.region (ef := [2, 3]) (bk := [3]) ?_
    refine RL.move rfl rfl rfl rfl ?_
    refine RL.callv (rof_any p cap key hb) Try.call117 rfl rfl rfl rfl (by repeat (first | exact Lend.nil | (refine Lend.inI ?_ ?_; (solve | (repeat (first | exact List.Mem.head _ | apply List.Mem.tail)))) | (refine Lend.inH ?_ ?_; (solve | (repeat (first | exact List.Mem.head _ | apply List.Mem.tail)))))) ?_
    refine RL.alloc (cs := List.replicate 32 (U8 0#8)) Try.zeroValue133 rfl rfl rfl rfl rfl ?_
    intro b2
    refine RL.storeW Try.sizeOf133 rfl rfl rfl rfl rfl rfl rfl (by first | rfl | exact ones_map one8 _ | exact ones_map (fun _ => rfl) _) (by repeat (first | exact Upd.here | apply Upd.there)) (by first | rfl | assumption | (simp only [List.length_map]; assumption) | (simp only [List.length_map, List.length_replicate, padK_len, padB_len, sha_length, dig_length, macCode_len]; done) | (simp; done)) (by first | rfl | assumption | (simp only [List.length_map]; assumption) | (simp only [List.length_map, List.length_replicate, padK_len, padB_len, sha_length, dig_length, macCode_len]; done) | (simp; done)) ?_
    refine RL.nil ?_
    refine NQ.seq ?_
    refine CW.only (.cons (k := 1) rfl (.cons (k := 4) rfl (.cons (k := 6) rfl .nil))) ?_
    refine CW.region (ef := [0, 2]) (bk := [2]) ?_
    refine RL.buildOwn [] Try.runUnderlying95 Try.sizeOf5 Try.zeroValue5 rfl rfl (by decide) (by decide) rfl (by decide) rfl rfl rfl rfl rfl rfl ?_
    intro b3
    refine RL.sliceAll Try.runUnderlying133 Try.sizeOf5 (by decide) rfl rfl rfl rfl ?_
    refine RL.appendA el_95 rfl rfl rfl rfl rfl rfl rfl (by first | exact ⟨(.take (Pick.none _)), rfl⟩ | exact ⟨(.leave (.take (Pick.none _))), rfl⟩ | exact ⟨(.leave (.leave (.take (Pick.none _)))), rfl⟩ | exact ⟨(.leave (.leave (.leave (.take (Pick.none _))))), rfl⟩ | exact ⟨(.leave (.leave (.leave (.leave (.take (Pick.none _)))))), rfl⟩ | exact ⟨(.leave (.leave (.leave (.leave (.leave (.take (Pick.none _))))))), rfl⟩ | exact ⟨(.leave (.leave (.leave (.leave (.leave (.leave (.take (Pick.none _)))))))), rfl⟩ | exact ⟨(.leave (.leave (.leave (.leave (.leave (.leave (.leave (.take (Pick.none _))))))))), rfl⟩ | exact ⟨(.leave (.leave (.leave (.leave (.leave (.leave (.leave (.leave (.take (Pick.none _)))))))))), rfl⟩ | exact ⟨(.leave (.leave (.leave (.leave (.leave (.leave (.leave (.leave (.leave (.take (Pick.none _))))))))))), rfl⟩) (by first | (exact Src.cel (by (solve | (repeat (first | exact List.Mem.head _ | apply List.Mem.tail)))) (by first | rfl | assumption | (simp only [List.length_map]; assumption) | (simp only [List.length_map, List.length_replicate, padK_len, padB_len, sha_length, dig_length, macCode_len]; done) | (simp; done))) | (exact Src.ownS (by (solve | (repeat (first | exact List.Mem.head _ | apply List.Mem.tail))))) | (exact Src.own (by (solve | (repeat (first | exact List.Mem.head _ | apply List.Mem.tail))))) | (exact Src.sls (by (solve | (repeat (first | exact List.Mem.head _ | apply List.Mem.tail))))) | (exact Src.celI (by (solve | (repeat (first | exact List.Mem.head _ | apply List.Mem.tail)))) (by first | rfl | assumption | (simp only [List.length_map]; assumption) | (simp only [List.length_map, List.length_replicate, padK_len, padB_len, sha_length, dig_length, macCode_len]; done) | (simp; done)))) (by first | exact one_map one8 _ | exact ones_spec rfl | exact one_map (fun _ => rfl) _ | (intro u hu; simp at hu; simp [hu, Value.oneCell'])) (by first | omega | (simp only [maxLen]; omega)) (by first | omega | (simp only [maxLen]; omega)) ?_
    intro ob2 cap2 ho2
    refine RL.assign rfl rfl rfl rfl ?_
    refine RL.nil ?_
    refine NQ.seq ?_
    refine CW.seq ?_
    refine CW.block ?_
    -- STOP: loop; todo top: ["code", ["loop", ["seq", ["seq", ["region", 5, [{"d": 19, "op": ["move", ["t", 5]], "ty": 95, "pos": "ref.go:16", "after": [], "guard": null}, {"d": 20, "op": ["builtin", "Go.Builtin.len", [["t", 19]
    refine CW.loop (γ := Nat × Option Nat × Nat) (fun g => (sha key).length + g.1 ≤ 64) (fun g => [(1, U8 x), (5, slO g.2.1 ((sha key).length + g.1) g.2.2)]) (fun _ => [])
      (fun g => [own g.2.1 g.2.2 5 1 ((sha key).length + g.1) (bytes ((sha key) ++ List.replicate g.1 0#8))]) (fun g => 64 - g.1) (0, ob2, cap2) (by simpa using hkl) (.cons rfl (.cons ((by rw [sha_length]; rfl)) .nil))
      (fun w h => by
        rw [own_is (ob := ob2) (n' := (sha key).length + 0) (xs' := bytes ((sha key) ++ List.replicate 0 0#8)) (by rw [sha_length]) (by simp)] at h
        exact h.rea (fun _ h => by cases h) (by repeat (first | exact Rea.nil | (apply Rea.cons; (solve | (repeat (first | exact Del.here | apply Del.there))))))) ?_
    rintro ⟨j, ob, c⟩ hj
    dsimp only at hj ⊢
    refine CW.seq ?_
    refine CW.seq ?_
    refine CW.region (ef := []) (bk := []) ?_
    refine RL.move rfl rfl rfl rfl ?_
    refine RL.lenS Try.runUnderlying95 rfl rfl rfl rfl ?_
    refine RL.bin rfl rfl rfl rfl rfl rfl ?_
    refine RL.nil ?_
    refine NQ.seq ?_
    -- STOP: if; todo top: ["code", ["cond", ["t", 21], ["skip"], ["exit", 0]]]
    refine CW.cond rfl (fun ht => ?_) (fun ht => ?_)
    ·
      refine CW.skip ?_
      refine NQ.seq ?_
      refine CW.block ?_
      refine CW.region (ef := [1, 2]) (bk := [2]) ?_
      refine RL.move rfl rfl rfl rfl ?_
      refine RL.buildOwn [_] Try.runUnderlying95 Try.sizeOf5 Try.zeroValue5 rfl rfl (by decide) (by decide) rfl (by decide) rfl rfl rfl rfl rfl rfl ?_
      intro b4
      refine RL.appendA el_95 rfl rfl rfl rfl rfl rfl rfl (by first | exact ⟨(.take (Pick.none _)), rfl⟩ | exact ⟨(.leave (.take (Pick.none _))), rfl⟩ | exact ⟨(.leave (.leave (.take (Pick.none _)))), rfl⟩ | exact ⟨(.leave (.leave (.leave (.take (Pick.none _))))), rfl⟩ | exact ⟨(.leave (.leave (.leave (.leave (.take (Pick.none _)))))), rfl⟩ | exact ⟨(.leave (.leave (.leave (.leave (.leave (.take (Pick.none _))))))), rfl⟩ | exact ⟨(.leave (.leave (.leave (.leave (.leave (.leave (.take (Pick.none _)))))))), rfl⟩ | exact ⟨(.leave (.leave (.leave (.leave (.leave (.leave (.leave (.take (Pick.none _))))))))), rfl⟩ | exact ⟨(.leave (.leave (.leave (.leave (.leave (.leave (.leave (.leave (.take (Pick.none _)))))))))), rfl⟩ | exact ⟨(.leave (.leave (.leave (.leave (.leave (.leave (.leave (.leave (.leave (.take (Pick.none _))))))))))), rfl⟩) (by first | (exact Src.cel (by (solve | (repeat (first | exact List.Mem.head _ | apply List.Mem.tail)))) (by first | rfl | assumption | (simp only [List.length_map]; assumption) | (simp only [List.length_map, List.length_replicate, padK_len, padB_len, sha_length, dig_length, macCode_len]; done) | (simp; done))) | (exact Src.ownS (by (solve | (repeat (first | exact List.Mem.head _ | apply List.Mem.tail))))) | (exact Src.own (by (solve | (repeat (first | exact List.Mem.head _ | apply List.Mem.tail))))) | (exact Src.sls (by (solve | (repeat (first | exact List.Mem.head _ | apply List.Mem.tail))))) | (exact Src.celI (by (solve | (repeat (first | exact List.Mem.head _ | apply List.Mem.tail)))) (by first | rfl | assumption | (simp only [List.length_map]; assumption) | (simp only [List.length_map, List.length_replicate, padK_len, padB_len, sha_length, dig_length, macCode_len]; done) | (simp; done)))) (by first | exact one_map one8 _ | exact ones_spec rfl | exact one_map (fun _ => rfl) _ | (intro u hu; simp at hu; simp [hu, Value.oneCell'])) (by first | omega | (simp only [maxLen]; omega)) (by first | omega | (simp only [maxLen]; omega)) ?_
      intro ob3 cap3 ho3
      refine RL.assign rfl rfl rfl rfl ?_
      refine RL.nil ?_
      refine NQ.block ?_
      -- STOP: round; todo top: ["N"]
      have hlt : (sha key).length + j < 64 := by simp at ht; omega
      refine NQ.round (g := (j, ob, c)) (j + 1, ob3, cap3) (by show (sha key).length + (j + 1) ≤ 64; omega) (by show 64 - (j + 1) < 64 - j; omega) (.cons rfl (.cons rfl .nil)) (fun w h => ?_)
      rw [own_is (ob := ob3) (n' := (sha key).length + (j + 1)) (xs' := bytes ((sha key) ++ List.replicate (j + 1) 0#8)) (by omega) (by simp [List.replicate_succ']; rfl)] at h
      exact h.rea (fun _ h => h) (by repeat (first | exact Rea.nil | (apply Rea.cons; (solve | (repeat (first | exact Del.here | apply Del.there))))))
    ·
      have hj64 : (sha key).length + j = 64 := by simp at ht; omega
      have hpk : (sha key) ++ List.replicate j 0#8 = padK key := by rw [padK, hk, show 64 - (sha key).length = j by omega]
      rw [hpk, hj64]
      refine CW.fact (p := ob.isSome = true) (fun w hC => tellN (hC.s.h (own ob c 5 1 64 (bytes (padK key))) (by repeat (first | exact List.Mem.head _ | apply List.Mem.tail))) (by decide)) (fun hob => ?_)
      obtain ⟨b, rfl⟩ : ∃ b, ob = some b := by
        cases ob with
        | none => cases hob
        | some b => exact ⟨b, rfl⟩
      refine CW.exit ?_
      refine XQ.seq ?_
      refine XQ.seq ?_
      refine XQ.hit ?_
      refine NQ.seq ?_
      refine CW.seq ?_
      refine CW.seq ?_
      refine CW.region (ef := []) (bk := []) ?_
      refine RL.assign rfl rfl rfl rfl ?_
      refine RL.nil ?_
      refine NQ.seq ?_
      refine CW.block ?_
      -- STOP: loop; todo top: ["code", ["loop", ["seq", ["seq", ["region", 8, [{"d": 25, "op": ["move", ["t", 7]], "ty": 3, "pos": "ref.go:19", "after": [], "guard": null}, {"d": 26, "op": ["binOp", "Go.BinOp.lss", 3, ["t", 25], [
      refine CW.loop (γ := Nat) (fun j => j ≤ 64) (fun j => [(1, U8 x), (5, slO (some b) 64 c), (7, .int .i64 (j : Int))]) (fun _ => [])
        (fun j => [own (some b) c 5 1 64 ((bytes (padB key x)).take j ++ (bytes (padK key)).drop j)]) (fun j => 64 - j) 0 (by omega) (.cons rfl (.cons rfl (.cons rfl .nil))) (fun _ h => h) ?_
      clear ht hpk hj hj64
      intro j hj
      refine CW.seq ?_
      refine CW.seq ?_
      refine CW.region (ef := []) (bk := []) ?_
      refine RL.move rfl rfl rfl rfl ?_
      refine RL.bin rfl rfl rfl rfl rfl rfl ?_
      refine RL.nil ?_
      refine NQ.seq ?_
      -- STOP: if; todo top: ["code", ["cond", ["t", 26], ["skip"], ["exit", 2]]]
      refine CW.cond rfl (fun hlt => ?_) (fun hlt => ?_)
      ·
        refine CW.skip ?_
        refine NQ.seq ?_
        refine CW.seq ?_
        refine CW.block ?_
        refine CW.region (ef := [9]) (bk := [9]) ?_
        refine RL.move rfl rfl rfl rfl ?_
        refine RL.move rfl rfl rfl rfl ?_
        refine RL.move rfl rfl rfl rfl ?_
        refine RL.move rfl rfl rfl rfl ?_
        -- STOP: op; op 4: d=33 ["indexAddr", 95, ["t", 31], ["t", 32]] guard=None (ref.go:20)
        have hlt : j < 64 := by simp at hlt; omega
        obtain ⟨g1, g2⟩ := padB_get key x hlt
        have hmx : ((bytes (padB key x)).take j ++ (bytes (padK key)).drop j)[j * 1]? = some (U8 ((padK key).getD j 0)) := by
          have := get_mix (l1 := bytes (padK key)) (l2 := bytes (padB key x)) (n := j) (by simp [padB_len]; omega)
          rw [Nat.zero_add] at this
          rw [this]; exact g2
        refine RL.idx (j := j) (p := ⟨b, 0, none⟩) Try.runUnderlying95 Try.sizeOf5 rfl rfl rfl rfl rfl rfl hlt ?_
        refine RL.load Try.isAgg5 rfl rfl rfl rfl (by first | assumption | (apply RdI.rd; assumption) | (apply Rd.get; (solve | (repeat (first | exact List.Mem.head _ | apply List.Mem.tail))); assumption) | (apply Rd.getS; (solve | (repeat (first | exact List.Mem.head _ | apply List.Mem.tail))); assumption) | (apply Rd.getO; (solve | (repeat (first | exact List.Mem.head _ | apply List.Mem.tail))); assumption) | (apply Rd.getI; (solve | (repeat (first | exact List.Mem.head _ | apply List.Mem.tail))); assumption) | (apply Rd.cel; (solve | (repeat (first | exact List.Mem.head _ | apply List.Mem.tail))); exact rfl) | (apply Rd.celI; (solve | (repeat (first | exact List.Mem.head _ | apply List.Mem.tail))); exact rfl)) ?_
        refine RL.move rfl rfl rfl rfl ?_
        refine RL.bv8 (a := _) (b := _) xor8 rfl rfl rfl rfl rfl ?_
        -- STOP: op; op 8: d=37 ["indexAddr", 95, ["t", 29], ["t", 30]] guard=None (ref.go:20)
        refine RL.idx (j := j) (p := ⟨b, 0, none⟩) Try.runUnderlying95 Try.sizeOf5 rfl rfl rfl rfl rfl rfl hlt ?_
        -- STOP: op; op 9: d=None ["store", 5, ["t", 37], ["t", 36]] guard=None (ref.go:20)
        have hst : spl ((bytes (padB key x)).take j ++ (bytes (padK key)).drop j) (j * 1) [U8 ((padK key).getD j 0 ^^^ x)] = (bytes (padB key x)).take (j + 1) ++ (bytes (padK key)).drop (j + 1) := by
          have := spl_mix (l1 := bytes (padK key)) (l2 := bytes (padB key x)) (n := j) (by simp [padB_len, padK_len]) g1
          rwa [Nat.zero_add] at this
        refine RL.storeO (off := j * 1) (vs := [_]) hst Try.sizeOf5 rfl rfl rfl rfl rfl rfl rfl rfl rfl (by simp [padB_len, padK_len]; omega) (by repeat (first | exact Upd.here | apply Upd.there)) ?_
        refine RL.nil ?_
        refine NQ.block ?_
        refine NQ.seq ?_
        refine CW.only (.cons (k := 1) rfl (.cons (k := 5) rfl (.cons (k := 7) rfl .nil))) ?_
        refine CW.region (ef := []) (bk := []) ?_
        refine RL.move rfl rfl rfl rfl ?_
        refine RL.binX rfl rfl rfl rfl rfl rfl (wrapV_i64 (by omega) (by omega)) ?_
        refine RL.assign rfl rfl rfl rfl ?_
        refine RL.nil ?_
        -- STOP: round; todo top: ["N"]
        exact NQ.round (g := j) (j + 1) hlt (by omega) (.cons rfl (.cons rfl (.cons rfl .nil))) (fun _ h => h)
      ·
        refine CW.exit ?_
        refine XQ.seq ?_
        refine XQ.seq ?_
        refine XQ.hit ?_
        refine NQ.seq ?_
        refine CW.seq ?_
        refine CW.region (ef := []) (bk := []) ?_
        refine RL.move rfl rfl rfl rfl ?_
        refine RL.assign rfl rfl rfl rfl ?_
        refine RL.nil ?_
        refine NQ.seq ?_
        refine CW.only (.cons (k := 4) rfl .nil) ?_
        refine CW.ret ?_
        -- STOP: ret; end
        have hj64 : j = 64 := by simp at hlt; omega
        subst hj64
        rw [List.take_of_length_le (by simp [padB_len]), List.drop_of_length_le (by simp [padK_len]), List.append_nil]
        exact RQ.post (res1 rfl rfl) (.keep .nil) ⟨_, _, by rw [padB_len], rfl, by rw [padB_len], .inr rfl⟩
  ·
    have hl : ¬ 64 < key.length := by simp at hl; omega
    have hk : kk key = key := by rw [kk, if_neg hl]
    have hkl : key.length ≤ 64 := by omega
    rw [Nat.zero_add]
    refine CW.skip ?_
    refine NQ.seq ?_
    refine CW.only (.cons (k := 1) rfl (.cons (k := 5) rfl .nil)) ?_
    refine CW.seq ?_
    refine CW.block ?_
    -- STOP: loop; todo top: ["code", ["loop", ["seq", ["seq", ["region", 5, [{"d": 19, "op": ["move", ["t", 5]], "ty": 95, "pos": "ref.go:16", "after": [], "guard": null}, {"d": 20, "op": ["builtin", "Go.Builtin.len", [["t", 19]
    refine CW.loop (γ := Nat × Option Nat × Nat) (fun g => key.length + g.1 ≤ 64) (fun g => [(1, U8 x), (5, slO g.2.1 (key.length + g.1) g.2.2)]) (fun _ => [])
      (fun g => [own g.2.1 g.2.2 5 1 (key.length + g.1) (bytes (key ++ List.replicate g.1 0#8))]) (fun g => 64 - g.1) (0, ob1, cap1) (by simpa using hkl) (.cons rfl (.cons (rfl) .nil))
      (fun w h => by
        rw [own_is (ob := ob1) (n' := key.length + 0) (xs' := bytes (key ++ List.replicate 0 0#8)) (by omega) (by simp)] at h
        exact h.rea (fun _ h => by cases h) (by repeat (first | exact Rea.nil | (apply Rea.cons; (solve | (repeat (first | exact Del.here | apply Del.there))))))) ?_
    rintro ⟨j, ob, c⟩ hj
    dsimp only at hj ⊢
    refine CW.seq ?_
    refine CW.seq ?_
    refine CW.region (ef := []) (bk := []) ?_
    refine RL.move rfl rfl rfl rfl ?_
    refine RL.lenS Try.runUnderlying95 rfl rfl rfl rfl ?_
    refine RL.bin rfl rfl rfl rfl rfl rfl ?_
    refine RL.nil ?_
    refine NQ.seq ?_
    -- STOP: if; todo top: ["code", ["cond", ["t", 21], ["skip"], ["exit", 0]]]
    refine CW.cond rfl (fun ht => ?_) (fun ht => ?_)
    ·
      refine CW.skip ?_
      refine NQ.seq ?_
      refine CW.block ?_
      refine CW.region (ef := [1, 2]) (bk := [2]) ?_
      refine RL.move rfl rfl rfl rfl ?_
      refine RL.buildOwn [_] Try.runUnderlying95 Try.sizeOf5 Try.zeroValue5 rfl rfl (by decide) (by decide) rfl (by decide) rfl rfl rfl rfl rfl rfl ?_
      intro b2
      refine RL.appendA el_95 rfl rfl rfl rfl rfl rfl rfl (by first | exact ⟨(.take (Pick.none _)), rfl⟩ | exact ⟨(.leave (.take (Pick.none _))), rfl⟩ | exact ⟨(.leave (.leave (.take (Pick.none _)))), rfl⟩ | exact ⟨(.leave (.leave (.leave (.take (Pick.none _))))), rfl⟩ | exact ⟨(.leave (.leave (.leave (.leave (.take (Pick.none _)))))), rfl⟩ | exact ⟨(.leave (.leave (.leave (.leave (.leave (.take (Pick.none _))))))), rfl⟩ | exact ⟨(.leave (.leave (.leave (.leave (.leave (.leave (.take (Pick.none _)))))))), rfl⟩ | exact ⟨(.leave (.leave (.leave (.leave (.leave (.leave (.leave (.take (Pick.none _))))))))), rfl⟩ | exact ⟨(.leave (.leave (.leave (.leave (.leave (.leave (.leave (.leave (.take (Pick.none _)))))))))), rfl⟩ | exact ⟨(.leave (.leave (.leave (.leave (.leave (.leave (.leave (.leave (.leave (.take (Pick.none _))))))))))), rfl⟩) (by first | (exact Src.cel (by (solve | (repeat (first | exact List.Mem.head _ | apply List.Mem.tail)))) (by first | rfl | assumption | (simp only [List.length_map]; assumption) | (simp only [List.length_map, List.length_replicate, padK_len, padB_len, sha_length, dig_length, macCode_len]; done) | (simp; done))) | (exact Src.ownS (by (solve | (repeat (first | exact List.Mem.head _ | apply List.Mem.tail))))) | (exact Src.own (by (solve | (repeat (first | exact List.Mem.head _ | apply List.Mem.tail))))) | (exact Src.sls (by (solve | (repeat (first | exact List.Mem.head _ | apply List.Mem.tail))))) | (exact Src.celI (by (solve | (repeat (first | exact List.Mem.head _ | apply List.Mem.tail)))) (by first | rfl | assumption | (simp only [List.length_map]; assumption) | (simp only [List.length_map, List.length_replicate, padK_len, padB_len, sha_length, dig_length, macCode_len]; done) | (simp; done)))) (by first | exact one_map one8 _ | exact ones_spec rfl | exact one_map (fun _ => rfl) _ | (intro u hu; simp at hu; simp [hu, Value.oneCell'])) (by first | omega | (simp only [maxLen]; omega)) (by first | omega | (simp only [maxLen]; omega)) ?_
      intro ob2 cap2 ho2
      refine RL.assign rfl rfl rfl rfl ?_
      refine RL.nil ?_
      refine NQ.block ?_
      -- STOP: round; todo top: ["N"]
      have hlt : key.length + j < 64 := by simp at ht; omega
      refine NQ.round (g := (j, ob, c)) (j + 1, ob2, cap2) (by show key.length + (j + 1) ≤ 64; omega) (by show 64 - (j + 1) < 64 - j; omega) (.cons rfl (.cons rfl .nil)) (fun w h => ?_)
      rw [own_is (ob := ob2) (n' := key.length + (j + 1)) (xs' := bytes (key ++ List.replicate (j + 1) 0#8)) (by omega) (by simp [List.replicate_succ']; rfl)] at h
      exact h.rea (fun _ h => h) (by repeat (first | exact Rea.nil | (apply Rea.cons; (solve | (repeat (first | exact Del.here | apply Del.there))))))
    ·
      have hj64 : key.length + j = 64 := by simp at ht; omega
      have hpk : key ++ List.replicate j 0#8 = padK key := by rw [padK, hk, show 64 - key.length = j by omega]
      rw [hpk, hj64]
      refine CW.fact (p := ob.isSome = true) (fun w hC => tellN (hC.s.h (own ob c 5 1 64 (bytes (padK key))) (by repeat (first | exact List.Mem.head _ | apply List.Mem.tail))) (by decide)) (fun hob => ?_)
      obtain ⟨b, rfl⟩ : ∃ b, ob = some b := by
        cases ob with
        | none => cases hob
        | some b => exact ⟨b, rfl⟩
      refine CW.exit ?_
      refine XQ.seq ?_
      refine XQ.seq ?_
      refine XQ.hit ?_
      refine NQ.seq ?_
      refine CW.seq ?_
      refine CW.seq ?_
      refine CW.region (ef := []) (bk := []) ?_
      refine RL.assign rfl rfl rfl rfl ?_
      refine RL.nil ?_
      refine NQ.seq ?_
      refine CW.block ?_
      -- STOP: loop; todo top: ["code", ["loop", ["seq", ["seq", ["region", 8, [{"d": 25, "op": ["move", ["t", 7]], "ty": 3, "pos": "ref.go:19", "after": [], "guard": null}, {"d": 26, "op": ["binOp", "Go.BinOp.lss", 3, ["t", 25], [
      refine CW.loop (γ := Nat) (fun j => j ≤ 64) (fun j => [(1, U8 x), (5, slO (some b) 64 c), (7, .int .i64 (j : Int))]) (fun _ => [])
        (fun j => [own (some b) c 5 1 64 ((bytes (padB key x)).take j ++ (bytes (padK key)).drop j)]) (fun j => 64 - j) 0 (by omega) (.cons rfl (.cons rfl (.cons rfl .nil))) (fun _ h => h) ?_
      clear ht hpk hj hj64
      intro j hj
      refine CW.seq ?_
      refine CW.seq ?_
      refine CW.region (ef := []) (bk := []) ?_
      refine RL.move rfl rfl rfl rfl ?_
      refine RL.bin rfl rfl rfl rfl rfl rfl ?_
      refine RL.nil ?_
      refine NQ.seq ?_
      -- STOP: if; todo top: ["code", ["cond", ["t", 26], ["skip"], ["exit", 2]]]
      refine CW.cond rfl (fun hlt => ?_) (fun hlt => ?_)
      ·
        refine CW.skip ?_
        refine NQ.seq ?_
        refine CW.seq ?_
        refine CW.block ?_
        refine CW.region (ef := [9]) (bk := [9]) ?_
        refine RL.move rfl rfl rfl rfl ?_
        refine RL.move rfl rfl rfl rfl ?_
        refine RL.move rfl rfl rfl rfl ?_
        refine RL.move rfl rfl rfl rfl ?_
        -- STOP: op; op 4: d=33 ["indexAddr", 95, ["t", 31], ["t", 32]] guard=None (ref.go:20)
        have hlt : j < 64 := by simp at hlt; omega
        obtain ⟨g1, g2⟩ := padB_get key x hlt
        have hmx : ((bytes (padB key x)).take j ++ (bytes (padK key)).drop j)[j * 1]? = some (U8 ((padK key).getD j 0)) := by
          have := get_mix (l1 := bytes (padK key)) (l2 := bytes (padB key x)) (n := j) (by simp [padB_len]; omega)
          rw [Nat.zero_add] at this
          rw [this]; exact g2
        refine RL.idx (j := j) (p := ⟨b, 0, none⟩) Try.runUnderlying95 Try.sizeOf5 rfl rfl rfl rfl rfl rfl hlt ?_
        refine RL.load Try.isAgg5 rfl rfl rfl rfl (by first | assumption | (apply RdI.rd; assumption) | (apply Rd.get; (solve | (repeat (first | exact List.Mem.head _ | apply List.Mem.tail))); assumption) | (apply Rd.getS; (solve | (repeat (first | exact List.Mem.head _ | apply List.Mem.tail))); assumption) | (apply Rd.getO; (solve | (repeat (first | exact List.Mem.head _ | apply List.Mem.tail))); assumption) | (apply Rd.getI; (solve | (repeat (first | exact List.Mem.head _ | apply List.Mem.tail))); assumption) | (apply Rd.cel; (solve | (repeat (first | exact List.Mem.head _ | apply List.Mem.tail))); exact rfl) | (apply Rd.celI; (solve | (repeat (first | exact List.Mem.head _ | apply List.Mem.tail))); exact rfl)) ?_
        refine RL.move rfl rfl rfl rfl ?_
        refine RL.bv8 (a := _) (b := _) xor8 rfl rfl rfl rfl rfl ?_
        -- STOP: op; op 8: d=37 ["indexAddr", 95, ["t", 29], ["t", 30]] guard=None (ref.go:20)
        refine RL.idx (j := j) (p := ⟨b, 0, none⟩) Try.runUnderlying95 Try.sizeOf5 rfl rfl rfl rfl rfl rfl hlt ?_
        -- STOP: op; op 9: d=None ["store", 5, ["t", 37], ["t", 36]] guard=None (ref.go:20)
        have hst : spl ((bytes (padB key x)).take j ++ (bytes (padK key)).drop j) (j * 1) [U8 ((padK key).getD j 0 ^^^ x)] = (bytes (padB key x)).take (j + 1) ++ (bytes (padK key)).drop (j + 1) := by
          have := spl_mix (l1 := bytes (padK key)) (l2 := bytes (padB key x)) (n := j) (by simp [padB_len, padK_len]) g1
          rwa [Nat.zero_add] at this
        refine RL.storeO (off := j * 1) (vs := [_]) hst Try.sizeOf5 rfl rfl rfl rfl rfl rfl rfl rfl rfl (by simp [padB_len, padK_len]; omega) (by repeat (first | exact Upd.here | apply Upd.there)) ?_
        refine RL.nil ?_
        refine NQ.block ?_
        refine NQ.seq ?_
        refine CW.only (.cons (k := 1) rfl (.cons (k := 5) rfl (.cons (k := 7) rfl .nil))) ?_
        refine CW.region (ef := []) (bk := []) ?_
        refine RL.move rfl rfl rfl rfl ?_
        refine RL.binX rfl rfl rfl rfl rfl rfl (wrapV_i64 (by omega) (by omega)) ?_
        refine RL.assign rfl rfl rfl rfl ?_
        refine RL.nil ?_
        -- STOP: round; todo top: ["N"]
        exact NQ.round (g := j) (j + 1) hlt (by omega) (.cons rfl (.cons rfl (.cons rfl .nil))) (fun _ h => h)
      ·
        refine CW.exit ?_
        refine XQ.seq ?_
        refine XQ.seq ?_
        refine XQ.hit ?_
        refine NQ.seq ?_
        refine CW.seq ?_
        refine CW.region (ef := []) (bk := []) ?_
        refine RL.move rfl rfl rfl rfl ?_
        refine RL.assign rfl rfl rfl rfl ?_
        refine RL.nil ?_
        refine NQ.seq ?_
        refine CW.only (.cons (k := 4) rfl .nil) ?_
        refine CW.ret ?_
        -- STOP: ret; end
        have hj64 : j = 64 := by simp at hlt; omega
        subst hj64
        rw [List.take_of_length_le (by simp [padB_len]), List.drop_of_length_le (by simp [padK_len]), List.append_nil]
        exact RQ.post (res1 rfl rfl) (.keep .nil) ⟨_, _, by rw [padB_len], rfl, by rw [padB_len], .inr rfl⟩
end Go.Proofs.Ytkkfdoippibfkaa
