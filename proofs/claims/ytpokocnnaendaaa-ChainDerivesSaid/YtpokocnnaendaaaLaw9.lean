import Derived.Test.YtpokocnnaendaaaMac4
import Derived.Test.YtpokocnnaendaaaAll9
namespace Go.Proofs.Ytpokocnnaendaaa
open Go.PK

theorem tag_eq (l1 l2 : List B8) (h1 : l1.length = 16) (h2 : l2.length = 16) (x y : Operand) (w : World) : (do eqGuard .eql 67 x y (.agg (bytes l1).toArray) (.agg (bytes l2).toArray); binOp .eql 67 (.agg (bytes l1).toArray) (.agg (bytes l2).toArray) : Sem Value).run Try.prog w = .ok (.bool (l1 == l2)) w :=
  eql_arr8 (e := 5) (by kernel_rfl) (ii := Try.t5) (by kernel_rfl) (by kernel_rfl) Try.isAgg5 Try.runUnderlying5 (by kernel_rfl) l1 l2 h1 h2 w
theorem Lend.nilS {I F J : List It} {sz : Nat} (h : Lend I F J) : Lend I F (PK.sls none sz 0 [] :: J) := .of (fun _ _ => ⟨by simp, rfl⟩) (fun c hc => by simp [PK.sls] at hc) h
theorem tag_beq (a b : List B8) (h : a = b) : Value.bool (a == b) = .bool true := by rw [h]; simp

theorem works9 : Spc Try.prog 43 #[] [] [] (Is (.bool true)) := by
  have hj : ∀ (p : Option Addr), joined [⟨p, 1, [5#8]⟩] = [5#8] := fun p => by simp [joined]
  refine Spc.enter Try.func43 rfl rfl rfl (fun w0 hw0 => ?_)
  refine CW.seq ?_
  refine CW.region (ef := []) (bk := []) ?_
  refine RL.assign rfl rfl rfl rfl ?_
  refine RL.nil ?_
  refine NQ.seq ?_
  refine CW.seq ?_
  refine CW.region (ef := [1, 2, 4, 5]) (bk := [5]) ?_
  -- STOP: op; op 0: d=2 ["build", 50, [[0, ["c", ["int", "Go.IntKind.u8", 1]]]]] guard=None (law.go:13)
  refine RL.buildA (bytes key1) Try.zeroValue50 Try.runUnderlying50 Try.sizeOf5 rfl rfl rfl rfl rfl ?_
  refine RL.buildSlice [_] Try.runUnderlying23 Try.sizeOf5 Try.zeroValue5 rfl rfl (by decide) (by decide) rfl rfl rfl rfl rfl rfl ?_
  intro b1
  refine RL.buildSlice [_] Try.runUnderlying22 Try.sizeOf23 Try.zeroValue23 rfl rfl (by decide) (by decide) rfl rfl rfl rfl rfl rfl ?_
  intro b2
  refine RL.callv (tag_any key1 (by decide) (some ⟨b2, 0, none⟩) 1 1 [⟨some ⟨b1, 0, none⟩, 1, [5#8]⟩] rfl (by decide) (by simp [joined])) Try.call41 rfl rfl rfl rfl (Lend.all (by repeat (first | exact List.Mem.head _ | apply List.Mem.tail)) rfl (Lend.all (by repeat (first | exact List.Mem.head _ | apply List.Mem.tail)) rfl .nil)) ?_
  refine RL.alloc Try.zeroValue67 rfl rfl rfl rfl rfl ?_
  intro b3
  refine RL.storeW Try.sizeOf67 rfl rfl rfl rfl rfl rfl rfl (by first | rfl | exact ones_map one8 _ | exact ones_map (fun _ => rfl) _) (by repeat (first | exact Upd.here | apply Upd.there)) (by first | rfl | assumption | (simp only [List.length_map]; assumption) | (simp only [List.length_map, List.length_replicate, padK_len, padB_len, sha_length, dig_length, macCode_len, macTag_len]; done) | (simp; done)) (by first | rfl | assumption | (simp only [List.length_map]; assumption) | (simp only [List.length_map, List.length_replicate, padK_len, padB_len, sha_length, dig_length, macCode_len, macTag_len]; done) | (simp; done)) ?_
  refine RL.nil ?_
  refine NQ.seq ?_
  refine CW.seq ?_
  refine CW.region (ef := [4, 5, 11, 12]) (bk := []) ?_
  refine RL.callv (equal_any none none 0 0 0 0 [] [] rfl rfl (by decide)) Try.call44 rfl rfl rfl rfl (Lend.nilS (Lend.nilS .nil)) ?_
  refine RL.move rfl rfl rfl rfl ?_
  -- STOP: part 7; op 2: d=8 ["build", 50, [[0, ["c", ["int", "Go.IntKind.u8", 1]]]]] guard=[1, True] (law.go:14)
  rw [hj]
  refine RL.cast (d := 7) (v' := .bool true) rfl (rfl) ?_
  -- STOP: op; op 2: d=8 ["build", 50, [[0, ["c", ["int", "Go.IntKind.u8", 1]]]]] guard=[1, True] (law.go:14)
  refine RL.buildA (bytes key1) Try.zeroValue50 Try.runUnderlying50 Try.sizeOf5 rfl rfl rfl rfl rfl ?_
  refine RL.loadW Try.isAgg67 Try.sizeOf67 rfl rfl rfl rfl (by repeat (first | exact List.Mem.head _ | apply List.Mem.tail)) (by first | rfl | assumption | (simp only [List.length_map]; assumption) | (simp only [List.length_map, List.length_replicate, padK_len, padB_len, sha_length, dig_length, macCode_len, macTag_len]; done) | (simp; done)) ?_
  refine RL.buildSlice [_] Try.runUnderlying23 Try.sizeOf5 Try.zeroValue5 rfl rfl (by decide) (by decide) rfl rfl rfl rfl rfl rfl ?_
  intro b4
  refine RL.buildSlice [_] Try.runUnderlying22 Try.sizeOf23 Try.zeroValue23 rfl rfl (by decide) (by decide) rfl rfl rfl rfl rfl rfl ?_
  intro b5
  refine RL.callv (right_any key1 (by decide) (macTag key1 [5#8]) (macTag_len _ _) (some ⟨b5, 0, none⟩) 1 1 [⟨some ⟨b4, 0, none⟩, 1, [5#8]⟩] rfl (by decide) (by simp [joined])) Try.call42 rfl rfl rfl rfl (Lend.all (by repeat (first | exact List.Mem.head _ | apply List.Mem.tail)) rfl (Lend.all (by repeat (first | exact List.Mem.head _ | apply List.Mem.tail)) rfl .nil)) ?_
  refine RL.pickT rfl rfl rfl rfl rfl ?_
  refine RL.move rfl rfl rfl rfl ?_
  -- STOP: part 14; op 9: d=15 ["build", 50, [[0, ["c", ["int", "Go.IntKind.u8", 1]]]]] guard=[8, True] (law.go:14)
  rw [hj]
  refine RL.cast (d := 14) (v' := .bool true) rfl ((tag_beq _ _ rfl)) ?_
  -- STOP: op; op 9: d=15 ["build", 50, [[0, ["c", ["int", "Go.IntKind.u8", 1]]]]] guard=[8, True] (law.go:14)
  refine RL.buildA (bytes key1) Try.zeroValue50 Try.runUnderlying50 Try.sizeOf5 rfl rfl rfl rfl rfl ?_
  refine RL.buildA _ Try.zeroValue67 Try.runUnderlying67 Try.sizeOf5 rfl rfl rfl rfl rfl ?_
  refine RL.buildSlice [_] Try.runUnderlying23 Try.sizeOf5 Try.zeroValue5 rfl rfl (by decide) (by decide) rfl rfl rfl rfl rfl rfl ?_
  intro b6
  refine RL.buildSlice [_] Try.runUnderlying22 Try.sizeOf23 Try.zeroValue23 rfl rfl (by decide) (by decide) rfl rfl rfl rfl rfl rfl ?_
  intro b7
  refine RL.callv (right_any key1 (by decide) (List.replicate 16 0#8) (by decide) (some ⟨b7, 0, none⟩) 1 1 [⟨some ⟨b6, 0, none⟩, 1, [5#8]⟩] rfl (by decide) (by simp [joined])) Try.call42 rfl rfl rfl rfl (Lend.all (by repeat (first | exact List.Mem.head _ | apply List.Mem.tail)) rfl (Lend.all (by repeat (first | exact List.Mem.head _ | apply List.Mem.tail)) rfl .nil)) ?_
  refine RL.not rfl rfl rfl rfl ?_
  refine RL.pickT rfl rfl rfl rfl rfl ?_
  refine RL.assign rfl rfl rfl rfl ?_
  refine RL.nil ?_
  refine NQ.seq ?_
  refine CW.only (.cons (k := 0) rfl .nil) ?_
  refine CW.ret ?_
  -- STOP: ret; end
  rw [hj, mk_tag]
  exact RQ.post (res1 rfl rfl) (Split.none _) ⟨congrArg Value.bool (by decide), rfl, rfl⟩

theorem macCodes_walk (kp : Option Addr) (kcap : Nat) (m : List B8) (hkc : m.length ≤ kcap) (k tg : List B8) (hk : k.length = 32) (ht : tg.length = 16) (pp : Option Addr) (cap : Nat) (qs : List Part) (hq : ∀ x ∈ qs, x.m.length ≤ x.c) :
    Spc Try.prog 11 #[.slice kp m.length kcap, .agg (bytes k).toArray, .agg (bytes tg).toArray, .slice pp qs.length cap] (sls kp 1 m.length (bytes m) :: sls pp 1 qs.length (qs.map Part.v) :: qs.map Part.i) [] (Is (.bool true)) := by
  refine Spc.enter Try.func11 rfl rfl rfl (fun w0 hw0 => ?_)
  refine CW.seq ?_
  refine CW.region (ef := [0, 1]) (bk := []) ?_
  refine RL.box rfl rfl rfl rfl rfl rfl ?_
  intro b1
  refine RL.box rfl rfl rfl rfl rfl rfl ?_
  intro b2
  refine RL.assign rfl rfl rfl rfl ?_
  refine RL.nil ?_
  refine NQ.seq ?_
  refine CW.seq ?_
  refine CW.region (ef := []) (bk := []) ?_
  refine RL.move rfl rfl rfl rfl ?_
  refine RL.move rfl rfl rfl rfl ?_
  refine RL.lenS Try.runUnderlying23 rfl rfl rfl rfl ?_
  refine RL.min rfl rfl rfl rfl rfl ?_
  -- STOP: op; op 4: d=16 ["slice", 23, ["t", 12], null, ["t", 15], null] guard=None (law.go:29)
  refine RL.slice (lo := 0) (hi := (m.take 300).length) Try.runUnderlying23 Try.sizeOf5 rfl rfl rfl rfl rfl (congrArg some (by rw [List.length_take]; omega)) (by omega) (by rw [List.length_take]; omega) ?_
  rw [Nat.sub_zero, Nat.sub_zero]
  refine RL.assign rfl rfl rfl rfl ?_
  refine RL.nil ?_
  refine NQ.seq ?_
  refine CW.only (.cons (k := 0) rfl (.cons (k := 3) rfl (.cons (k := 5) rfl (.cons (k := 6) rfl .nil)))) ?_
  refine CW.seq ?_
  -- STOP: region; todo top: ["code", ["region", 2, [{"d": 18, "op": ["move", ["t", 3]], "ty": 22, "pos": "law.go:30", "after": [], "guard": null}, {"d": 19, "op": ["call", ["f", 37], [["t", 18]], [22]], "ty": 24, "pos": "law.go:
  refine CW.takeB (c := kcap) (k := 300) (by repeat (first | exact List.Mem.head _ | apply List.Mem.tail)) hkc ?_
  have hB : (m.take 300).length ≤ 300 := by rw [List.length_take]; omega
  generalize m.take 300 = key at hB ⊢
  generalize (if kcap = 0 then kp else kp.map (·.add (0 * 1))) = P2
  refine CW.les (I' := sls P2 1 key.length (bytes key) :: sls pp 1 qs.length (qs.map Part.v) :: qs.map Part.i) (fun x hx => by simp only [List.mem_cons] at hx ⊢; rcases hx with rfl | rfl | hx <;> simp [*]) (Les.refl _) ?_
  refine CW.region (ef := [1]) (bk := []) ?_
  refine RL.move rfl rfl rfl rfl ?_
  refine RL.call (all9_any pp cap qs hq) Try.call37 rfl rfl rfl rfl rfl (by repeat (first | exact Pick.nil | apply Pick.take | apply Pick.leave)) (Lend.many (fun _ h => by simp only [List.mem_cons, List.mem_append] at h ⊢; rcases h with rfl | h <;> simp [*])) (.inl rfl) ?_
  -- STOP: called; op 2: d=17 ["move", ["t", 19]] guard=None (law.go:30)
  rintro _ _ _ ⟨ps, obA, obB, cA, cB, rfl, rfl, rfl, h1, h2, h3⟩
  have hJ : (joined ps).length ≤ 1600 := by omega
  refine RL.move rfl rfl rfl rfl ?_
  refine RL.extract rfl rfl rfl rfl rfl ?_
  refine RL.extract rfl rfl rfl rfl rfl ?_
  refine RL.assign rfl rfl rfl rfl ?_
  refine RL.assign rfl rfl rfl rfl ?_
  refine RL.nil ?_
  refine NQ.seq ?_
  refine CW.only (.cons (k := 0) rfl (.cons (k := 5) rfl (.cons (k := 6) rfl (.cons (k := 9) rfl (.cons (k := 10) rfl .nil))))) ?_
  refine CW.seq ?_
  refine CW.region (ef := [3, 4]) (bk := [4]) ?_
  refine RL.loadW Try.isAgg50 Try.sizeOf50 rfl rfl rfl rfl (by repeat (first | exact List.Mem.head _ | apply List.Mem.tail)) (by first | rfl | assumption | (simp only [List.length_map]; assumption) | (simp only [List.length_map, List.length_replicate, padK_len, padB_len, sha_length, dig_length, macCode_len, macTag_len]; done) | (simp; done)) ?_
  refine RL.move rfl rfl rfl rfl ?_
  refine RL.callv (rtag_any k hk (obB.map fun b => ⟨b, 0, none⟩) (joined ps).length cB (joined ps) rfl (by omega)) Try.call38 rfl rfl rfl rfl (Lend.own (by repeat (first | exact List.Mem.head _ | apply List.Mem.tail)) .nil) ?_
  refine RL.alloc Try.zeroValue67 rfl rfl rfl rfl rfl ?_
  intro b3
  refine RL.storeW Try.sizeOf67 rfl rfl rfl rfl rfl rfl rfl (by first | rfl | exact ones_map one8 _ | exact ones_map (fun _ => rfl) _) (by repeat (first | exact Upd.here | apply Upd.there)) (by first | rfl | assumption | (simp only [List.length_map]; assumption) | (simp only [List.length_map, List.length_replicate, padK_len, padB_len, sha_length, dig_length, macCode_len, macTag_len]; done) | (simp; done)) (by first | rfl | assumption | (simp only [List.length_map]; assumption) | (simp only [List.length_map, List.length_replicate, padK_len, padB_len, sha_length, dig_length, macCode_len, macTag_len]; done) | (simp; done)) ?_
  refine RL.nil ?_
  refine NQ.seq ?_
  refine CW.seq ?_
  refine CW.regionD (Sq.of [0, 2, 4, 5, 1, 3, 6, 7, 8, 9, 10, 11, 12, 13, 14, 15, 16, 17, 18, 19, 20, 21, 22, 23, 24, 25, 26, 27, 28, 29, 30, 31, 32, 33, 34]) [1, 3, 6] [] mixed (by kernel_rfl) ?_
  refine RL.move rfl rfl rfl rfl ?_
  refine RL.move rfl rfl rfl rfl ?_
  refine RL.move rfl rfl rfl rfl ?_
  refine RL.move rfl rfl rfl rfl ?_
  refine RL.call (bytes_any P2 kcap key (by omega)) Try.call26 rfl rfl rfl rfl rfl (by repeat (first | exact Pick.nil | apply Pick.take | apply Pick.leave)) (.inI (by simp) .nil) (.inl rfl) ?_
  -- STOP: called; op 3: d=28 ["call", ["f", 39], [["t", 26], ["t", 27]], [23, 22]] guard=None (law.go:32)
  rintro _ _ _ ⟨obk, ck, rfl, rfl, rfl, hok⟩
  refine RL.callv (code_n (obk.map fun b => ⟨b, 0, none⟩) key.length ck key rfl (by omega) (obA.map fun b => ⟨b, 0, none⟩) ps.length cA ps rfl (by omega) (by omega)) Try.call39 rfl rfl rfl rfl (Lend.own (by repeat (first | exact List.Mem.head _ | apply List.Mem.tail)) (Lend.own (by repeat (first | exact List.Mem.head _ | apply List.Mem.tail)) (Lend.many (fun x hx => by simp [hx])))) ?_
  refine RL.callv (rcode_n P2 key.length kcap key rfl (by omega) (obB.map fun b => ⟨b, 0, none⟩) (joined ps).length cB (joined ps) rfl (by omega)) Try.call40 rfl rfl rfl rfl (.inI (by simp) (Lend.own (by repeat (first | exact List.Mem.head _ | apply List.Mem.tail)) .nil)) ?_
  -- STOP: op; op 7: d=32 ["binOp", "Go.BinOp.eql", 27, ["t", 28], ["t", 31], 27] guard=None (law.go:32)
  refine RL.cmp rfl rfl rfl rfl rfl (dig_eq _ _ (macCode_len _ _) (macCode_len _ _) _ _) ?_
  refine RL.move rfl rfl rfl rfl ?_
  -- STOP: part 33; op 9: d=34 ["load", 50, ["t", 5]] guard=[8, True] (law.go:32)
  refine RL.cast (d := 33) (v' := .bool true) rfl ((tag_beq _ _ rfl)) ?_
  refine RL.loadW Try.isAgg50 Try.sizeOf50 rfl rfl rfl rfl (by repeat (first | exact List.Mem.head _ | apply List.Mem.tail)) (by first | rfl | assumption | (simp only [List.length_map]; assumption) | (simp only [List.length_map, List.length_replicate, padK_len, padB_len, sha_length, dig_length, macCode_len, macTag_len]; done) | (simp; done)) ?_
  refine RL.move rfl rfl rfl rfl ?_
  refine RL.callv (tag_any k hk (obA.map fun b => ⟨b, 0, none⟩) ps.length cA ps rfl (by omega) (by omega)) Try.call41 rfl rfl rfl rfl (Lend.own (by repeat (first | exact List.Mem.head _ | apply List.Mem.tail)) (Lend.many (fun x hx => by simp [hx]))) ?_
  refine RL.loadW Try.isAgg67 Try.sizeOf67 rfl rfl rfl rfl (by repeat (first | exact List.Mem.head _ | apply List.Mem.tail)) (by first | rfl | assumption | (simp only [List.length_map]; assumption) | (simp only [List.length_map, List.length_replicate, padK_len, padB_len, sha_length, dig_length, macCode_len, macTag_len]; done) | (simp; done)) ?_
  -- STOP: op; op 13: d=38 ["binOp", "Go.BinOp.eql", 67, ["t", 36], ["t", 37], 67] guard=[8, True] (law.go:32)
  refine RL.cmp rfl rfl rfl rfl rfl (tag_eq _ _ (macTag_len _ _) (macTag_len _ _) _ _) ?_
  refine RL.pickT rfl rfl rfl rfl rfl ?_
  refine RL.move rfl rfl rfl rfl ?_
  -- STOP: part 40; op 16: d=41 ["load", 50, ["t", 5]] guard=[15, True] (law.go:32)
  refine RL.cast (d := 40) (v' := .bool true) rfl ((tag_beq _ _ rfl)) ?_
  refine RL.loadW Try.isAgg50 Try.sizeOf50 rfl rfl rfl rfl (by repeat (first | exact List.Mem.head _ | apply List.Mem.tail)) (by first | rfl | assumption | (simp only [List.length_map]; assumption) | (simp only [List.length_map, List.length_replicate, padK_len, padB_len, sha_length, dig_length, macCode_len, macTag_len]; done) | (simp; done)) ?_
  refine RL.loadW Try.isAgg67 Try.sizeOf67 rfl rfl rfl rfl (by repeat (first | exact List.Mem.head _ | apply List.Mem.tail)) (by first | rfl | assumption | (simp only [List.length_map]; assumption) | (simp only [List.length_map, List.length_replicate, padK_len, padB_len, sha_length, dig_length, macCode_len, macTag_len]; done) | (simp; done)) ?_
  refine RL.move rfl rfl rfl rfl ?_
  refine RL.callv (right_any k hk tg ht (obA.map fun b => ⟨b, 0, none⟩) ps.length cA ps rfl (by omega) (by omega)) Try.call42 rfl rfl rfl rfl (Lend.own (by repeat (first | exact List.Mem.head _ | apply List.Mem.tail)) (Lend.many (fun x hx => by simp [hx]))) ?_
  refine RL.loadW Try.isAgg67 Try.sizeOf67 rfl rfl rfl rfl (by repeat (first | exact List.Mem.head _ | apply List.Mem.tail)) (by first | rfl | assumption | (simp only [List.length_map]; assumption) | (simp only [List.length_map, List.length_replicate, padK_len, padB_len, sha_length, dig_length, macCode_len, macTag_len]; done) | (simp; done)) ?_
  refine RL.loadW Try.isAgg67 Try.sizeOf67 rfl rfl rfl rfl (by repeat (first | exact List.Mem.head _ | apply List.Mem.tail)) (by first | rfl | assumption | (simp only [List.length_map]; assumption) | (simp only [List.length_map, List.length_replicate, padK_len, padB_len, sha_length, dig_length, macCode_len, macTag_len]; done) | (simp; done)) ?_
  -- STOP: op; op 22: d=47 ["binOp", "Go.BinOp.eql", 67, ["t", 45], ["t", 46], 67] guard=[15, True] (law.go:32)
  refine RL.cmp rfl rfl rfl rfl rfl (tag_eq _ _ ht (macTag_len _ _) _ _) ?_
  refine RL.cmp rfl rfl rfl rfl rfl (eql_bool Try.runUnderlying4 _ _) ?_
  refine RL.pickT rfl rfl rfl rfl rfl ?_
  refine RL.move rfl rfl rfl rfl ?_
  -- STOP: part 50; op 26: d=51 ["load", 50, ["t", 5]] guard=[25, True] (law.go:32)
  refine RL.cast (d := 50) (v' := .bool true) rfl ((by simp)) ?_
  refine RL.loadW Try.isAgg50 Try.sizeOf50 rfl rfl rfl rfl (by repeat (first | exact List.Mem.head _ | apply List.Mem.tail)) (by first | rfl | assumption | (simp only [List.length_map]; assumption) | (simp only [List.length_map, List.length_replicate, padK_len, padB_len, sha_length, dig_length, macCode_len, macTag_len]; done) | (simp; done)) ?_
  refine RL.loadW Try.isAgg67 Try.sizeOf67 rfl rfl rfl rfl (by repeat (first | exact List.Mem.head _ | apply List.Mem.tail)) (by first | rfl | assumption | (simp only [List.length_map]; assumption) | (simp only [List.length_map, List.length_replicate, padK_len, padB_len, sha_length, dig_length, macCode_len, macTag_len]; done) | (simp; done)) ?_
  refine RL.move rfl rfl rfl rfl ?_
  refine RL.callv (right_any k hk (macTag k (joined ps)) (macTag_len _ _) (obA.map fun b => ⟨b, 0, none⟩) ps.length cA ps rfl (by omega) (by omega)) Try.call42 rfl rfl rfl rfl (Lend.own (by repeat (first | exact List.Mem.head _ | apply List.Mem.tail)) (Lend.many (fun x hx => by simp [hx]))) ?_
  refine RL.pickT rfl rfl rfl rfl rfl ?_
  refine RL.move rfl rfl rfl rfl ?_
  -- STOP: part 56; op 32: d=57 ["call", ["f", 43], [], []] guard=[31, True] (law.go:32)
  refine RL.cast (d := 56) (v' := .bool true) rfl ((tag_beq _ _ rfl)) ?_
  refine RL.callv (works9) Try.call43 rfl rfl rfl rfl (by repeat (first | exact Lend.nil | (refine Lend.inI ?_ ?_; (solve | (repeat (first | exact List.Mem.head _ | apply List.Mem.tail)))) | (refine Lend.inH ?_ ?_; (solve | (repeat (first | exact List.Mem.head _ | apply List.Mem.tail)))))) ?_
  refine RL.pickT rfl rfl rfl rfl rfl ?_
  refine RL.assign rfl rfl rfl rfl ?_
  refine RL.nil ?_
  refine NQ.seq ?_
  refine CW.only (.cons (k := 8) rfl .nil) ?_
  refine CW.ret ?_
  -- STOP: ret; end
  exact RQ.post (res1 rfl rfl) (Split.none _) ⟨rfl, rfl, rfl⟩
end Go.Proofs.Ytpokocnnaendaaa
