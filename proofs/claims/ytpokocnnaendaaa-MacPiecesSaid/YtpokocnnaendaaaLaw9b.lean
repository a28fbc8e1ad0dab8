import Derived.Test.YtpokocnnaendaaaLaw9
namespace Go.Proofs.Ytpokocnnaendaaa
open Go.PK

theorem padK_zeros (key : List B8) (z : Nat) (h : key.length + z ≤ 64) : padK (key ++ List.replicate z 0#8) = padK key := by
  have h1 : kk key = key := by rw [kk, if_neg (by omega)]
  have h2 : kk (key ++ List.replicate z 0#8) = key ++ List.replicate z 0#8 := by rw [kk, if_neg (by simp; omega)]
  rw [padK, padK, h1, h2, List.append_assoc, List.replicate_append_replicate, List.length_append, List.length_replicate]
  congr 2; omega
theorem macCode_zeros (key b : List B8) (z : Nat) (h : key.length + z ≤ 64) : macCode (key ++ List.replicate z 0#8) b = macCode key b := by
  simp only [macCode, padB, padK_zeros key z h]
theorem split_all (B : List B8) (n : Nat) : (B.drop 0).take n ++ (B.drop n).take (B.length - n) = B := by
  rw [List.drop_zero, List.take_of_length_le (l := B.drop n) (by simp), List.take_append_drop]
theorem set_same (T : List B8) (j : Nat) (hj : j < T.length) (x : B8) : ((T.set j (T.getD j 0 ^^^ x)) == T) = ((x.toNat : Int) == 0) := by
  rw [Bool.eq_iff_iff, beq_iff_eq, beq_iff_eq]
  constructor
  · intro h
    have := congrArg (fun l => l[j]?) h
    simp only [List.getElem?_set, hj, if_true, List.getElem?_eq_getElem hj, Option.some.injEq] at this
    rw [List.getD_eq_getElem?_getD, List.getElem?_eq_getElem hj, Option.getD_some] at this
    have hx : x = 0#8 := by
      have h2 : T[j] ^^^ (T[j] ^^^ x) = T[j] ^^^ T[j] := by rw [this]
      rw [← BitVec.xor_assoc, BitVec.xor_self] at h2
      simpa using h2
    rw [hx]; rfl
  · intro h
    have hx : x = 0#8 := by apply BitVec.eq_of_toNat_eq; simp at h ⊢; omega
    subst hx
    rw [BitVec.xor_zero, List.getD_eq_getElem?_getD, List.getElem?_eq_getElem hj, Option.getD_some, List.set_getElem_self]

theorem u8_z0 : ∀ ii z, Try.prog.info? 5 = some ii → ii.zero = some z → z.cells = #[U8 0#8] := by
  intro ii z h1 h2
  have e : Try.prog.info? 5 = some Try.t5 := by kernel_rfl
  rw [e] at h1
  cases h1
  have : Try.t5.zero = some (U8 0#8) := by kernel_rfl
  rw [this] at h2
  cases h2
  rfl

theorem macEqual_walk (p q : Option Addr) (c1 c2 : Nat) (m1 m2 : List B8) (hc1 : m1.length ≤ c1) (hc2 : m2.length ≤ c2) :
    Spc Try.prog 14 #[.slice p m1.length c1, .slice q m2.length c2] [sls p 1 m1.length (bytes m1), sls q 1 m2.length (bytes m2)] [] (Is (.bool true)) := by
  refine Spc.enter Try.func14 rfl rfl rfl (fun w0 hw0 => ?_)
  refine CW.seq ?_
  refine CW.region (ef := []) (bk := []) ?_
  refine RL.assign rfl rfl rfl rfl ?_
  refine RL.nil ?_
  refine NQ.seq ?_
  refine CW.seq ?_
  refine CW.regionD (Sq.of [0, 1, 2, 3, 4, 5, 6, 7, 8, 9, 10, 11]) [] [] mixed (by kernel_rfl) ?_
  refine RL.move rfl rfl rfl rfl ?_
  refine RL.move rfl rfl rfl rfl ?_
  refine RL.lenS Try.runUnderlying23 rfl rfl rfl rfl ?_
  refine RL.min rfl rfl rfl rfl rfl ?_
  -- STOP: op; op 4: d=9 ["slice", 23, ["t", 5], null, ["t", 8], null] guard=None (law.go:37)
  refine RL.slice (lo := 0) (hi := (m1.take 300).length) Try.runUnderlying23 Try.sizeOf5 rfl rfl rfl rfl rfl (congrArg some (by rw [List.length_take]; omega)) (by omega) (by rw [List.length_take]; omega) ?_
  refine RL.move rfl rfl rfl rfl ?_
  refine RL.move rfl rfl rfl rfl ?_
  refine RL.lenS Try.runUnderlying23 rfl rfl rfl rfl ?_
  refine RL.min rfl rfl rfl rfl rfl ?_
  -- STOP: op; op 9: d=14 ["slice", 23, ["t", 10], null, ["t", 13], null] guard=None (law.go:37)
  refine RL.slice (lo := 0) (hi := (m2.take 300).length) Try.runUnderlying23 Try.sizeOf5 rfl rfl rfl rfl rfl (congrArg some (by rw [List.length_take]; omega)) (by omega) (by rw [List.length_take]; omega) ?_
  simp only [Nat.sub_zero]
  refine RL.assign rfl rfl rfl rfl ?_
  refine RL.assign rfl rfl rfl rfl ?_
  refine RL.nil ?_
  refine NQ.seq ?_
  refine CW.only (.cons (k := 0) rfl (.cons (k := 1) rfl .nil)) ?_
  refine CW.seq ?_
  -- STOP: region; todo top: ["code", ["region", 2, [{"d": 15, "op": ["move", ["t", 0]], "ty": 23, "pos": "law.go:38", "after": [], "guard": null}, {"d": 16, "op": ["call", ["f", 26], [["t", 15]], [23]], "ty": 23, "pos": "law.go:
  refine CW.takeB (c := c1) (k := 300) (by repeat (first | exact List.Mem.head _ | apply List.Mem.tail)) hc1 ?_
  refine CW.takeB (c := c2) (k := 300) (by repeat (first | exact List.Mem.head _ | apply List.Mem.tail)) hc2 ?_
  have hA : (m1.take 300).length ≤ 300 := by rw [List.length_take]; omega
  have hB : (m2.take 300).length ≤ 300 := by rw [List.length_take]; omega
  generalize m1.take 300 = a at hA ⊢
  generalize m2.take 300 = b at hB ⊢
  generalize (if c1 = 0 then p else p.map (·.add (0 * 1))) = P1
  generalize (if c2 = 0 then q else q.map (·.add (0 * 1))) = P2
  refine CW.les (I' := [sls P1 1 a.length (bytes a), sls P2 1 b.length (bytes b)]) (fun x hx => by simp only [List.mem_cons] at hx ⊢; rcases hx with rfl | rfl | hx <;> simp [*]) (Les.refl _) ?_
  refine CW.region (ef := [1, 3, 4, 7, 11, 13, 14, 17]) (bk := []) ?_
  refine RL.move rfl rfl rfl rfl ?_
  refine RL.call (bytes_any P1 c1 a (by omega)) Try.call26 rfl rfl rfl rfl rfl (by repeat (first | exact Pick.nil | apply Pick.take | apply Pick.leave)) (.inI (by simp) .nil) (.inl rfl) ?_
  -- STOP: called; op 2: d=17 ["move", ["t", 1]] guard=None (law.go:38)
  rintro _ _ _ ⟨ob1, k1, rfl, rfl, rfl, -⟩
  refine RL.move rfl rfl rfl rfl ?_
  refine RL.call (bytes_any P2 c2 b (by omega)) Try.call26 rfl rfl rfl rfl rfl (by repeat (first | exact Pick.nil | apply Pick.take | apply Pick.leave)) (.inI (by simp) .nil) (.inl rfl) ?_
  -- STOP: called; op 4: d=19 ["call", ["f", 44], [["t", 16], ["t", 18]], [23, 23]] guard=None (law.go:38)
  rintro _ _ _ ⟨ob2, k2, rfl, rfl, rfl, -⟩
  refine RL.callv (equal_any (ob1.map fun b => ⟨b, 0, none⟩) (ob2.map fun b => ⟨b, 0, none⟩) a.length b.length k1 k2 a b rfl rfl (by omega)) Try.call44 rfl rfl rfl rfl (Lend.own (by repeat (first | exact List.Mem.head _ | apply List.Mem.tail)) (Lend.own (by repeat (first | exact List.Mem.head _ | apply List.Mem.tail)) .nil)) ?_
  refine RL.move rfl rfl rfl rfl ?_
  refine RL.move rfl rfl rfl rfl ?_
  refine RL.callv (same_any P1 P2 a.length b.length c1 c2 a b) Try.call45 rfl rfl rfl rfl (.inI (by simp) (.inI (by simp) .nil)) ?_
  refine RL.cmp rfl rfl rfl rfl rfl (eql_bool Try.runUnderlying4 _ _) ?_
  refine RL.move rfl rfl rfl rfl ?_
  -- STOP: part 24; op 10: d=25 ["move", ["t", 0]] guard=[9, True] (law.go:38)
  refine RL.cast (d := 24) (v' := .bool true) rfl ((by simp)) ?_
  refine RL.move rfl rfl rfl rfl ?_
  refine RL.call (bytes_any P1 c1 a (by omega)) Try.call26 rfl rfl rfl rfl rfl (by repeat (first | exact Pick.nil | apply Pick.take | apply Pick.leave)) (.inI (by simp) .nil) (.inl rfl) ?_
  -- STOP: called; op 12: d=27 ["move", ["t", 1]] guard=[9, True] (law.go:38)
  rintro _ _ _ ⟨ob3, k3, rfl, rfl, rfl, -⟩
  refine RL.move rfl rfl rfl rfl ?_
  refine RL.call (bytes_any P2 c2 b (by omega)) Try.call26 rfl rfl rfl rfl rfl (by repeat (first | exact Pick.nil | apply Pick.take | apply Pick.leave)) (.inI (by simp) .nil) (.inl rfl) ?_
  -- STOP: called; op 14: d=29 ["call", ["f", 46], [["t", 26], ["t", 28]], [23, 23]] guard=[9, True] (law.go:38)
  rintro _ _ _ ⟨ob4, k4, rfl, rfl, rfl, -⟩
  refine RL.callv (diff_any (ob3.map fun b => ⟨b, 0, none⟩) (ob4.map fun b => ⟨b, 0, none⟩) a.length b.length k3 k4 a b rfl rfl (by omega) (by omega)) Try.call46 rfl rfl rfl rfl (Lend.own (by repeat (first | exact List.Mem.head _ | apply List.Mem.tail)) (Lend.own (by repeat (first | exact List.Mem.head _ | apply List.Mem.tail)) .nil)) ?_
  refine RL.move rfl rfl rfl rfl ?_
  refine RL.move rfl rfl rfl rfl ?_
  refine RL.callv (rdiff_any P1 P2 a.length b.length c1 c2 a b rfl rfl (by omega) (by omega)) Try.call47 rfl rfl rfl rfl (.inI (by simp) (.inI (by simp) .nil)) ?_
  refine RL.bin rfl rfl rfl rfl rfl rfl ?_
  refine RL.pickT rfl rfl rfl rfl rfl ?_
  refine RL.move rfl rfl rfl rfl ?_
  -- STOP: part 35; op 21: d=36 ["call", ["f", 43], [], []] guard=[20, True] (law.go:38)
  refine RL.cast (d := 35) (v' := .bool true) rfl ((by simp)) ?_
  refine RL.callv (works9) Try.call43 rfl rfl rfl rfl (by repeat (first | exact Lend.nil | (refine Lend.inI ?_ ?_; (solve | (repeat (first | exact List.Mem.head _ | apply List.Mem.tail)))) | (refine Lend.inH ?_ ?_; (solve | (repeat (first | exact List.Mem.head _ | apply List.Mem.tail)))))) ?_
  refine RL.pickT rfl rfl rfl rfl rfl ?_
  refine RL.assign rfl rfl rfl rfl ?_
  refine RL.nil ?_
  refine NQ.seq ?_
  refine CW.only (.cons (k := 4) rfl .nil) ?_
  refine CW.ret ?_
  -- STOP: ret; end
  exact RQ.post (res1 rfl rfl) (Split.none _) ⟨rfl, rfl, rfl⟩
theorem macEqual_call (W : World) (x y : Sl B8) (hx : rBytes.ok x) (hy : rBytes.ok y) (tx : ∀ z ∈ rBytes.its x, z.A W) (ty : ∀ z ∈ rBytes.its y, z.A W) :
    Calls Try.prog 14 #[rBytes.val x, rBytes.val y] W (fun e w' => e = .returned (.bool true) ∧ RowKit.Below W.heap.size W w') :=
  (macEqual_walk x.p y.p x.c y.c x.l y.l hx.1 hy.1).lawI (fun z hz => by
    rcases List.mem_cons.1 hz with rfl | hz
    · exact tx _ (List.Mem.head _)
    · rw [List.mem_singleton.1 hz]; exact ty _ (List.Mem.head _))

theorem macTurned_walk (k : List B8) (hk : k.length = 32) (q : Option Addr) (c2 : Nat) (m : List B8) (hc2 : m.length ≤ c2) (at_ by_ : B8) :
    Spc Try.prog 13 #[.agg (bytes k).toArray, .slice q m.length c2, U8 at_, U8 by_] [sls q 1 m.length (bytes m)] [] (Is (.bool true)) := by
  refine Spc.enter Try.func13 rfl rfl rfl (fun w0 hw0 => ?_)
  refine CW.seq ?_
  refine CW.region (ef := [0]) (bk := []) ?_
  refine RL.box rfl rfl rfl rfl rfl rfl ?_
  intro b1
  refine RL.assign rfl rfl rfl rfl ?_
  refine RL.nil ?_
  refine NQ.seq ?_
  refine CW.seq ?_
  refine CW.seq ?_
  refine CW.region (ef := []) (bk := []) ?_
  refine RL.callv (works9) Try.call43 rfl rfl rfl rfl (by repeat (first | exact Lend.nil | (refine Lend.inI ?_ ?_; (solve | (repeat (first | exact List.Mem.head _ | apply List.Mem.tail)))) | (refine Lend.inH ?_ ?_; (solve | (repeat (first | exact List.Mem.head _ | apply List.Mem.tail)))))) ?_
  refine RL.not rfl rfl rfl rfl ?_
  refine RL.nil ?_
  refine NQ.seq ?_
  -- STOP: if; todo top: ["code", ["cond", ["t", 11], ["seq", ["region", 2, [{"d": 8, "op": ["assign", ["c", ["bool", false]]], "ty": 4, "pos": "law.go:55", "after": [], "guard": null}], false], ["ret"]], ["skip"]]]
  refine CW.condF rfl (rfl) ?_
  refine CW.skip ?_
  refine NQ.seq ?_
  refine CW.seq ?_
  refine CW.region (ef := []) (bk := []) ?_
  refine RL.move rfl rfl rfl rfl ?_
  refine RL.move rfl rfl rfl rfl ?_
  refine RL.lenS Try.runUnderlying23 rfl rfl rfl rfl ?_
  refine RL.min rfl rfl rfl rfl rfl ?_
  -- STOP: op; op 4: d=16 ["slice", 23, ["t", 12], null, ["t", 15], null] guard=None (law.go:57)
  refine RL.slice (lo := 0) (hi := (m.take 300).length) Try.runUnderlying23 Try.sizeOf5 rfl rfl rfl rfl rfl (congrArg some (by rw [List.length_take]; omega)) (by omega) (by rw [List.length_take]; omega) ?_
  simp only [Nat.sub_zero]
  refine RL.assign rfl rfl rfl rfl ?_
  refine RL.nil ?_
  refine NQ.seq ?_
  refine CW.only (.cons (k := 1) rfl (.cons (k := 2) rfl (.cons (k := 3) rfl (.cons (k := 4) rfl .nil)))) ?_
  refine CW.seq ?_
  -- STOP: region; todo top: ["code", ["region", 4, [{"d": 17, "op": ["load", 50, ["t", 4]], "ty": 50, "pos": "law.go:58", "after": [], "guard": null}, {"d": 18, "op": ["move", ["t", 1]], "ty": 23, "pos": "law.go:58", "after": []
  refine CW.takeB (c := c2) (k := 300) (by repeat (first | exact List.Mem.head _ | apply List.Mem.tail)) hc2 ?_
  have hB : (m.take 300).length ≤ 300 := by rw [List.length_take]; omega
  generalize m.take 300 = B at hB ⊢
  generalize (if c2 = 0 then q else q.map (·.add (0 * 1))) = P2
  refine CW.les (I' := [sls P2 1 B.length (bytes B)]) (fun x hx => by simp only [List.mem_cons] at hx ⊢; rcases hx with rfl | hx <;> simp [*]) (Les.refl _) ?_
  have hj : joined [⟨P2, c2, B⟩] = B := by simp [joined]
  refine CW.region (ef := [2, 4, 5]) (bk := [5]) ?_
  refine RL.loadW Try.isAgg50 Try.sizeOf50 rfl rfl rfl rfl (by repeat (first | exact List.Mem.head _ | apply List.Mem.tail)) (by first | rfl | assumption | (simp only [List.length_map]; assumption) | (simp only [List.length_map, List.length_replicate, padK_len, padB_len, sha_length, dig_length, macCode_len, macTag_len]; done) | (simp; done)) ?_
  refine RL.move rfl rfl rfl rfl ?_
  refine RL.buildSlice [_] Try.runUnderlying22 Try.sizeOf23 Try.zeroValue23 rfl rfl (by decide) (by decide) rfl rfl rfl rfl rfl rfl ?_
  intro b2
  refine RL.callv (tag_any k hk (some ⟨b2, 0, none⟩) 1 1 [⟨P2, c2, B⟩] rfl (by decide) (by rw [hj]; omega)) Try.call41 rfl rfl rfl rfl (Lend.all (by repeat (first | exact List.Mem.head _ | apply List.Mem.tail)) rfl (.inI (by simp) .nil)) ?_
  refine RL.alloc Try.zeroValue67 rfl rfl rfl rfl rfl ?_
  intro b3
  refine RL.storeW Try.sizeOf67 rfl rfl rfl rfl rfl rfl rfl (by first | rfl | exact ones_map one8 _ | exact ones_map (fun _ => rfl) _) (by repeat (first | exact Upd.here | apply Upd.there)) (by first | rfl | assumption | (simp only [List.length_map]; assumption) | (simp only [List.length_map, List.length_replicate, padK_len, padB_len, sha_length, dig_length, macCode_len, macTag_len]; done) | (simp; done)) (by first | rfl | assumption | (simp only [List.length_map]; assumption) | (simp only [List.length_map, List.length_replicate, padK_len, padB_len, sha_length, dig_length, macCode_len, macTag_len]; done) | (simp; done)) ?_
  refine RL.nil ?_
  refine NQ.seq ?_
  refine CW.seq ?_
  refine CW.region (ef := [7]) (bk := [7]) ?_
  refine RL.move rfl rfl rfl rfl ?_
  -- STOP: op; op 1: d=22 ["binOp", "Go.BinOp.rem", 5, ["t", 21], ["c", ["int", "Go.IntKind.u8", 16]], 5] guard=None (law.go:59)
  rw [hj]
  have hT := macTag_len k B
  generalize hTe : macTag k B = T at hT ⊢
  have hjl : at_.toNat % 16 < 16 := Nat.mod_lt _ (by decide)
  have g1 : (bytes T)[0 + (at_.toNat % 16) * 1]? = some (U8 (T.getD (at_.toNat % 16) 0)) := by rw [Nat.zero_add, Nat.mul_one]; exact bytes_get (by omega)
  have hst : spl (bytes T) (0 + (at_.toNat % 16) * 1) [U8 (T.getD (at_.toNat % 16) 0 ^^^ by_)] = bytes (T.set (at_.toNat % 16) (T.getD (at_.toNat % 16) 0 ^^^ by_)) := by
    rw [Nat.zero_add, Nat.mul_one, spl_set (by simp; omega)]; show _ = List.map U8 _; rw [List.map_set]
  refine RL.remX (v' := .int .u8 ((at_.toNat % 16 : Nat) : Int)) rfl rfl rfl rfl rfl (by decide) (congrArg _ (tmodN at_.toNat 16)) ?_
  have hs := set_same T (at_.toNat % 16) (by omega) by_
  generalize at_.toNat % 16 = j at hjl g1 hst hs ⊢
  -- STOP: op; op 2: d=23 ["indexAddr", 67, ["t", 9], ["t", 22]] guard=None (law.go:59)
  refine RL.idxAAt (j := j) Try.runUnderlying67 Try.sizeOf5 rfl rfl rfl rfl rfl rfl hjl ?_
  refine RL.load Try.isAgg5 rfl rfl rfl rfl (by first | assumption | (apply Rd.get; (solve | (repeat (first | exact List.Mem.head _ | apply List.Mem.tail))); assumption) | (apply Rd.getS; (solve | (repeat (first | exact List.Mem.head _ | apply List.Mem.tail))); assumption) | (apply Rd.getO; (solve | (repeat (first | exact List.Mem.head _ | apply List.Mem.tail))); assumption) | (apply Rd.getI; (solve | (repeat (first | exact List.Mem.head _ | apply List.Mem.tail))); assumption) | (apply Rd.cel; (solve | (repeat (first | exact List.Mem.head _ | apply List.Mem.tail))); exact rfl) | (apply Rd.celI; (solve | (repeat (first | exact List.Mem.head _ | apply List.Mem.tail))); exact rfl)) ?_
  refine RL.move rfl rfl rfl rfl ?_
  refine RL.bv8 (a := _) (b := _) xor8 rfl rfl rfl rfl rfl ?_
  -- STOP: op; op 6: d=27 ["indexAddr", 67, ["t", 9], ["t", 22]] guard=None (law.go:59)
  refine RL.idxAAt (j := j) Try.runUnderlying67 Try.sizeOf5 rfl rfl rfl rfl rfl rfl hjl ?_
  -- STOP: op; op 7: d=None ["store", 5, ["t", 27], ["t", 26]] guard=None (law.go:59)
  refine RL.storeX (cs := bytes T) (cs' := bytes (T.set j (T.getD j 0 ^^^ by_))) (vs := [_]) hst Try.sizeOf5 rfl rfl rfl rfl rfl rfl rfl rfl (by repeat (first | exact Upd.here | apply Upd.there)) (by simp; omega) ?_
  have hsl : (T.set j (T.getD j 0 ^^^ by_)).length = 16 := by rw [List.length_set, hT]
  generalize T.set j (T.getD j 0 ^^^ by_) = T2 at hs hsl ⊢
  refine RL.nil ?_
  refine NQ.seq ?_
  refine CW.only (.cons (k := 1) rfl (.cons (k := 3) rfl (.cons (k := 4) rfl (.cons (k := 9) rfl .nil)))) ?_
  refine CW.seq ?_
  refine CW.region (ef := [3]) (bk := []) ?_
  refine RL.loadW Try.isAgg50 Try.sizeOf50 rfl rfl rfl rfl (by repeat (first | exact List.Mem.head _ | apply List.Mem.tail)) (by first | rfl | assumption | (simp only [List.length_map]; assumption) | (simp only [List.length_map, List.length_replicate, padK_len, padB_len, sha_length, dig_length, macCode_len, macTag_len]; done) | (simp; done)) ?_
  refine RL.loadW Try.isAgg67 Try.sizeOf67 rfl rfl rfl rfl (by repeat (first | exact List.Mem.head _ | apply List.Mem.tail)) (by first | rfl | assumption | (simp only [List.length_map]; assumption) | (simp only [List.length_map, List.length_replicate, padK_len, padB_len, sha_length, dig_length, macCode_len, macTag_len]; done) | (simp; done)) ?_
  refine RL.move rfl rfl rfl rfl ?_
  refine RL.buildSlice [_] Try.runUnderlying22 Try.sizeOf23 Try.zeroValue23 rfl rfl (by decide) (by decide) rfl rfl rfl rfl rfl rfl ?_
  intro b4
  refine RL.callv (right_any k hk T2 hsl (some ⟨b4, 0, none⟩) 1 1 [⟨P2, c2, B⟩] rfl (by decide) (by rw [hj]; omega)) Try.call42 rfl rfl rfl rfl (Lend.all (by repeat (first | exact List.Mem.head _ | apply List.Mem.tail)) rfl (.inI (by simp) .nil)) ?_
  refine RL.move rfl rfl rfl rfl ?_
  refine RL.bin rfl rfl rfl rfl rfl rfl ?_
  refine RL.cmp rfl rfl rfl rfl rfl (eql_bool Try.runUnderlying4 _ _) ?_
  refine RL.assign rfl rfl rfl rfl ?_
  refine RL.nil ?_
  refine NQ.seq ?_
  refine CW.only (.cons (k := 8) rfl .nil) ?_
  refine CW.ret ?_
  -- STOP: ret; end
  rw [hj]
  exact RQ.post (res1 rfl rfl) (Split.none _) ⟨by rw [hTe, hs]; simp, rfl, rfl⟩
theorem macTurned_call (W : World) (k : List B8) (x : Sl B8) (a b : B8) (hk : rKey.ok k) (hx : rBytes.ok x) (_ : rU8.ok a) (_ : rU8.ok b) (_ : ∀ z ∈ rKey.its k, z.A W) (tx : ∀ z ∈ rBytes.its x, z.A W) (_ : ∀ z ∈ rU8.its a, z.A W) (_ : ∀ z ∈ rU8.its b, z.A W) :
    Calls Try.prog 13 #[rKey.val k, rBytes.val x, rU8.val a, rU8.val b] W (fun e w' => e = .returned (.bool true) ∧ RowKit.Below W.heap.size W w') :=
  (macTurned_walk k hk.1 x.p x.c x.l hx.1 a b).lawI (fun z hz => by rw [List.mem_singleton.1 hz]; exact tx _ (List.Mem.head _))

theorem macCodes_call (W : World) (x : Sl B8) (k tg : List B8) (y : Sl (Sl B8)) (hx : rBytes.ok x) (hk : rKey.ok k) (ht : rTag.ok tg) (hy : rParts.ok y) (tx : ∀ z ∈ rBytes.its x, z.A W) (_ : ∀ z ∈ rKey.its k, z.A W) (_ : ∀ z ∈ rTag.its tg, z.A W) (ty : ∀ z ∈ rParts.its y, z.A W) :
    Calls Try.prog 11 #[rBytes.val x, rKey.val k, rTag.val tg, rParts.val y] W (fun e w' => e = .returned (.bool true) ∧ RowKit.Below W.heap.size W w') := by
  have := (macCodes_walk x.p x.c x.l hx.1 k tg hk.1 ht.1 y.p y.c (y.l.map Part.of) (parts_ok hy)).lawI (fun z hz => by
    rcases List.mem_cons.1 hz with rfl | hz
    · exact tx _ (List.Mem.head _)
    · exact parts_told ty z hz)
  rw [List.length_map] at this
  exact this
end Go.Proofs.Ytpokocnnaendaaa
