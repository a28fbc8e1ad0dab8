import Derived.Test.YtflpiaeffnoepaaKPuts
namespace Go.Proofs.Ytflpiaeffnoepaa
open Go.PK

/-- A part of a list. -/
def seg (l : List B8) (o n : Nat) : List B8 := (l.drop o).take n
theorem seg_add (l : List B8) (o a b : Nat) : seg l o (a + b) = seg l o a ++ seg l (o + a) b := by
  unfold seg
  rw [List.take_add, List.drop_drop]
theorem seg_all (l : List B8) {n : Nat} (h : l.length = n) : seg l 0 n = l := by
  unfold seg
  rw [List.drop_zero, List.take_of_length_le (by omega)]
theorem seg_len {l : List B8} {o n : Nat} (h : o + n ≤ l.length) : (seg l o n).length = n := by
  unfold seg
  rw [List.length_take, List.length_drop]; omega
theorem beN_nat {l : List B8} {o n : Nat} (h : o + n ≤ l.length) : beN n (nat l o n) = seg l o n := by
  have e := beN_num (seg l o n)
  rw [seg_len h] at e
  exact e
theorem be4_at {l : List B8} {o : Nat} (h : o + 4 ≤ l.length) : be4 (i32at l o) = seg l o 4 := by
  have hl := nat_lt l o 4
  rw [← beN_nat h, be4, i32at]
  congr 1
  simp [IntKind.wrap, IntKind.bits, IntKind.signed]; omega
theorem be8_at {l : List B8} {o : Nat} (h : o + 8 ≤ l.length) : be8' (i64at l o) = seg l o 8 := by
  have hl := nat_lt l o 8
  rw [← beN_nat h, be8', i64at]
  congr 1
  simp [IntKind.wrap, IntKind.bits, IntKind.signed]; omega
theorem w64_nat {l : List B8} {o n : Nat} (hn : n ≤ 8) : w64 (nat l o n : Int) = nat l o n := by
  have hl := nat_lt l o n
  have : 256 ^ n ≤ 256 ^ 8 := Nat.pow_le_pow_right (by decide) hn
  unfold w64
  rw [u64_id _ (by omega)]; rfl
theorem beW {l : List B8} {o n : Nat} (hn : n ≤ 8) (h : o + n ≤ l.length) : beN n (w64 (nat l o n : Int)) = seg l o n := by rw [w64_nat hn, beN_nat h]
theorem bat_seg {l : List B8} {o : Nat} (h : o + 1 ≤ l.length) : [bat l o] = seg l o 1 := by
  unfold seg
  rw [List.drop_eq_getElem_cons (by omega), List.take_succ_cons, List.take_zero]
  simp [bat, show o < l.length by omega]
theorem key_seg {l : List B8} {o : Nat} (h : o + 32 ≤ l.length) : keyL (fun j => bat l (o + j)) = seg l o 32 := by
  have e : bytes (keyL (fun j => bat l (o + j))) = bytes (seg l o 32) := (key_bat h).symm
  have inj : ∀ a b : B8, U8 a = U8 b → a = b := fun a b h => by
    simp only [U8, Value.int.injEq, true_and] at h
    exact BitVec.eq_of_toNat_eq (by omega)
  exact (List.map_inj_right inj).1 e
/-- What was got of bytes is put as the same bytes. -/
theorem body_get {k : Int} (hk : 1 ≤ k ∧ k ≤ 14) {l : List B8} (hl : l.length = sizeR k) : bodyR (getR k l) = l ∧ (getR k l).kind = k := by
  have : k = 1 ∨ k = 2 ∨ k = 3 ∨ k = 4 ∨ k = 5 ∨ k = 6 ∨ k = 7 ∨ k = 8 ∨ k = 9 ∨ k = 10 ∨ k = 11 ∨ k = 12 ∨ k = 13 ∨ k = 14 := by omega
  rcases this with rfl | rfl | rfl | rfl | rfl | rfl | rfl | rfl | rfl | rfl | rfl | rfl | rfl | rfl
  · have hl : l.length = 24 := hl
    refine ⟨?_, rfl⟩
    show [i32at l 0, i32at l 4, i32at l 8].flatMap be4 ++ [i32at l 12, i32at l 16, i32at l 20].flatMap be4 = l
    simp only [List.flatMap_cons, List.flatMap_nil, List.append_nil]
    rw [be4_at (by omega), be4_at (by omega), be4_at (by omega), be4_at (by omega), be4_at (by omega), be4_at (by omega)]
    conv => rhs; rw [← seg_all l hl, show 24 = 4 + (4 + (4 + (4 + (4 + 4)))) from rfl]
    simp only [seg_add, List.append_assoc, Nat.zero_add]
  · have hl : l.length = 8 := hl
    refine ⟨?_, rfl⟩
    show be8' (i64at l 0) = l
    rw [be8_at (by omega), seg_all l hl]
  · have hl : l.length = 4 := hl
    refine ⟨?_, rfl⟩
    show beN 4 (w64 (nat l 0 4)) = l
    rw [beW (by omega) (by omega), seg_all l hl]
  · have hl : l.length = 8 := hl
    refine ⟨?_, rfl⟩
    show be4 (i32at l 0) ++ beN 4 (w64 (nat l 4 4)) = l
    rw [be4_at (by omega), beW (by omega) (by omega)]
    conv => rhs; rw [← seg_all l hl, show 8 = 4 + 4 from rfl, seg_add]
  · have hl : l.length = 29 := hl
    refine ⟨?_, rfl⟩
    show beN 4 (w64 (nat l 0 4)) ++ [bat l 4] ++ [i64at l 5, i64at l 13, i64at l 21].flatMap be8' = l
    simp only [List.flatMap_cons, List.flatMap_nil, List.append_nil]
    rw [beW (by omega) (by omega), bat_seg (by omega), be8_at (by omega), be8_at (by omega), be8_at (by omega)]
    conv => rhs; rw [← seg_all l hl, show 29 = 4 + (1 + (8 + (8 + 8))) from rfl]
    simp only [seg_add, List.append_assoc, Nat.zero_add]
  · have hl : l.length = 36 := hl
    refine ⟨?_, rfl⟩
    show beN 4 (w64 (nat l 0 4)) ++ keyL (fun j => bat l (4 + j)) = l
    rw [beW (by omega) (by omega), key_seg (by omega)]
    conv => rhs; rw [← seg_all l hl, show 36 = 4 + 32 from rfl, seg_add]
  · have hl : l.length = 8 := hl
    refine ⟨?_, rfl⟩
    show beN 8 ((nat l 0 8 : Int)).toNat = l
    rw [Int.toNat_natCast, beN_nat (by omega), seg_all l hl]
  · have hl : l.length = 1 := hl
    refine ⟨?_, rfl⟩
    show [bat l 0] = l
    rw [bat_seg (by omega), seg_all l hl]
  · have hl : l.length = 0 := hl
    exact ⟨(List.eq_nil_of_length_eq_zero hl).symm, rfl⟩
  · have hl : l.length = 4 := hl
    refine ⟨?_, rfl⟩
    show beN 4 (w64 (nat l 0 4)) = l
    rw [beW (by omega) (by omega), seg_all l hl]
  · have hl : l.length = 0 := hl
    exact ⟨(List.eq_nil_of_length_eq_zero hl).symm, rfl⟩
  · have hl : l.length = 1 := hl
    refine ⟨?_, rfl⟩
    show [bat l 0] = l
    rw [bat_seg (by omega), seg_all l hl]
  · have hl : l.length = 37 := hl
    refine ⟨?_, rfl⟩
    show [bat l 0] ++ [i64at l 1, i64at l 9, i64at l 17].flatMap be8' ++ be8' (i64at l 25) ++ beN 4 (w64 (nat l 33 4)) = l
    simp only [List.flatMap_cons, List.flatMap_nil, List.append_nil]
    rw [beW (by omega) (by omega), bat_seg (by omega), be8_at (by omega), be8_at (by omega), be8_at (by omega), be8_at (by omega)]
    conv => rhs; rw [← seg_all l hl, show 37 = 1 + (8 + (8 + (8 + (8 + 4)))) from rfl]
    simp only [seg_add, List.append_assoc, Nat.zero_add]
  · have hl : l.length = 16 := hl
    refine ⟨?_, rfl⟩
    show [bat l 0] ++ [bat l 1] ++ beN 2 (w64 (nat l 2 2)) ++ beN 8 ((nat l 4 8 : Int)).toNat ++ beN 4 (w64 (nat l 12 4)) = l
    rw [Int.toNat_natCast, beW (by omega) (by omega), beW (by omega) (by omega), bat_seg (by omega), bat_seg (by omega), beN_nat (by omega)]
    conv => rhs; rw [← seg_all l hl, show 16 = 1 + (1 + (2 + (8 + 4))) from rfl]
    simp only [seg_add, List.append_assoc, Nat.zero_add]
theorem put_got {k : Int} {l : List B8} {x : Rdg} (h : gotR k l = some x) : okP x ∧ putB x = l ∧ putE x = 0 := by
  have h' := h
  unfold gotR at h
  split at h
  · rename_i hc
    cases h
    obtain ⟨e1, e2⟩ := body_get ⟨hc.1, hc.2.1⟩ hc.2.2.1
    have hok : okP (getR k l) := ⟨getR k l, by rw [e1, e2]; exact h', rfl⟩
    exact ⟨hok, by rw [(put_yes hok).1, e1], (put_yes hok).2⟩
  · cases h

theorem rz0_ok : (rz 0).Ok := rz_ok (k := 0) rfl
theorem put_okE {r : Rdg} (h : putE r = 0) : okP r := Classical.byContradiction fun hn => by rw [(put_no hn).2] at h; cases h
theorem kindBack_walk (r : Rdg) (hr : r.Ok) (k : Int) (hk : wfk .i64 k) (p : Option Addr) (c : Nat) (l : List B8) (hc : l.length ≤ c) : Spc Try.prog 5 #[.agg r.cells.toArray, .int .i64 k, .slice p l.length c] [sls p 1 l.length (bytes l)] [] (Is (.bool true)) := by
  have hg := got_ok' hk l
  refine Spc.enter Try.func5 rfl rfl rfl (fun w0 hw0 => ?_)
  refine CW.seq ?_
  refine CW.region (ef := [0]) (bk := []) ?_
  refine RL.box rfl rfl rfl rfl rfl rfl ?_
  intro b1
  refine RL.assign rfl rfl rfl rfl ?_
  refine RL.nil ?_
  refine NQ.seq ?_
  refine CW.seq ?_
  refine CW.seq ?_
  refine CW.region (ef := []) (bk := []) ?_
  refine RL.callv (works_any) Try.call22 rfl rfl rfl rfl (by repeat (first | exact Lend.nil | (refine Lend.inI ?_ ?_; (solve | (repeat (first | exact List.Mem.head _ | apply List.Mem.tail)))) | (refine Lend.inH ?_ ?_; (solve | (repeat (first | exact List.Mem.head _ | apply List.Mem.tail)))))) ?_
  refine RL.not rfl rfl rfl rfl ?_
  refine RL.nil ?_
  refine NQ.seq ?_
  -- STOP: if; todo top: ["code", ["cond", ["t", 16], ["seq", ["region", 2, [{"d": 6, "op": ["assign", ["c", ["bool", false]]], "ty": 4, "pos": "law.go:37", "after": [], "guard": null}], false], ["ret"]], ["skip"]]]
  refine CW.condF rfl (rfl) ?_
  refine CW.skip ?_
  refine NQ.seq ?_
  refine CW.seq ?_
  refine CW.seq ?_
  refine CW.region (ef := [1]) (bk := []) ?_
  refine RL.loadW Try.isAgg33 Try.sizeOf33 rfl rfl rfl rfl (by repeat (first | exact List.Mem.head _ | apply List.Mem.tail)) (by first | rfl | assumption | (simp only [List.length_map]; assumption) | (simp only [List.length_map, List.length_replicate]; done) | (simp; done)) ?_
  refine RL.call (put_any r hr) Try.call15 rfl rfl rfl rfl rfl (by repeat (first | exact Pick.nil | apply Pick.take | apply Pick.leave)) (by repeat (first | exact Lend.nil | (refine Lend.inI ?_ ?_; (solve | (repeat (first | exact List.Mem.head _ | apply List.Mem.tail)))) | (refine Lend.inH ?_ ?_; (solve | (repeat (first | exact List.Mem.head _ | apply List.Mem.tail)))))) (.inl rfl) ?_
  -- STOP: called; op 2: d=17 ["move", ["t", 19]] guard=None (law.go:39)
  rintro _ _ _ ⟨oa, ca, rfl, rfl, rfl⟩
  refine RL.move rfl rfl rfl rfl ?_
  refine RL.extract rfl rfl rfl rfl rfl ?_
  refine RL.extract rfl rfl rfl rfl rfl ?_
  refine RL.assign rfl rfl rfl rfl ?_
  refine RL.assign rfl rfl rfl rfl ?_
  refine RL.nil ?_
  refine NQ.seq ?_
  refine CW.only (.cons (k := 1) rfl (.cons (k := 2) rfl (.cons (k := 3) rfl (.cons (k := 6) rfl (.cons (k := 7) rfl (.cons (k := 8) rfl .nil)))))) ?_
  refine CW.seq ?_
  refine CW.region (ef := []) (bk := []) ?_
  refine RL.move rfl rfl rfl rfl ?_
  refine RL.bin rfl rfl rfl rfl rfl rfl ?_
  refine RL.nil ?_
  refine NQ.seq ?_
  -- STOP: if; todo top: ["code", ["cond", ["t", 23], ["seq", ["region", 5, [{"d": 25, "op": ["fieldAddr", 33, ["t", 3], 0], "ty": 0, "pos": "law.go:40", "after": [], "guard": null}, {"d": 26, "op": ["load", 3, ["t", 25]], "t
  refine CW.cond rfl (fun h1 => ?_) (fun h1 => ?_)
  ·
    have h1 : putE r = 0 := by simpa using h1
    have hok := put_okE h1
    obtain ⟨x, hx, hxc⟩ := id hok
    have hp : putB r = bodyR r := (put_yes hok).1
    have hbl := bodyR_len r
    rw [hp]
    refine CW.seq ?_
    -- STOP: region; todo top: ["code", ["region", 5, [{"d": 25, "op": ["fieldAddr", 33, ["t", 3], 0], "ty": 0, "pos": "law.go:40", "after": [], "guard": null}, {"d": 26, "op": ["load", 3, ["t", 25]], "ty": 3, "pos": "law.go:40", "
    refine CW.fact (p := (bodyR r).length ≤ ca) (fun w hC => own_cap (hC.s.h (own oa ca 5 1 (bodyR r).length (bytes (bodyR r))) (by repeat (first | exact List.Mem.head _ | apply List.Mem.tail)))) (fun hca => ?_)
    refine CW.region (ef := [7, 8]) (bk := [8]) ?_
    refine RL.fieldAddr fa_33_0 rfl rfl rfl rfl ?_
    refine RL.load Try.isAgg3 rfl rfl rfl rfl (by first | assumption | (apply Rd.get; (solve | (repeat (first | exact List.Mem.head _ | apply List.Mem.tail))); assumption) | (apply Rd.getS; (solve | (repeat (first | exact List.Mem.head _ | apply List.Mem.tail))); assumption) | (apply Rd.getO; (solve | (repeat (first | exact List.Mem.head _ | apply List.Mem.tail))); assumption) | (apply Rd.getI; (solve | (repeat (first | exact List.Mem.head _ | apply List.Mem.tail))); assumption) | (apply Rd.cel; (solve | (repeat (first | exact List.Mem.head _ | apply List.Mem.tail))); exact rfl) | (apply Rd.celI; (solve | (repeat (first | exact List.Mem.head _ | apply List.Mem.tail))); exact rfl)) ?_
    refine RL.move rfl rfl rfl rfl ?_
    refine RL.callv (get_all r.kind (oa.map fun b => ⟨b, 0, none⟩) (bodyR r).length ca (bodyR r) rfl hca) Try.call23 rfl rfl rfl rfl (Lend.own (by repeat (first | exact List.Mem.head _ | apply List.Mem.tail)) .nil) ?_
    refine RL.move rfl rfl rfl rfl ?_
    -- STOP: op; op 5: d=29 ["extract", ["t", 24], 0] guard=None (law.go:40)
    rw [hx, show gotV (some x) = .tuple #[.agg r.cells.toArray, .int .i64 0] from by rw [← hxc]; rfl]
    refine RL.extract rfl rfl rfl rfl rfl ?_
    refine RL.extract rfl rfl rfl rfl rfl ?_
    refine RL.alloc Try.zeroValue33 rfl rfl rfl rfl rfl ?_
    intro b2
    refine RL.storeW Try.sizeOf33 rfl rfl rfl rfl rfl rfl rfl (by first | rfl | exact ones_map one8 _ | exact ones_map (fun _ => rfl) _) (by repeat (first | exact Upd.here | apply Upd.there)) (by first | rfl | assumption | (simp only [List.length_map]; assumption) | (simp only [List.length_map, List.length_replicate]; done) | (simp; done)) (by first | rfl | assumption | (simp only [List.length_map]; assumption) | (simp only [List.length_map, List.length_replicate]; done) | (simp; done)) ?_
    refine RL.assign rfl rfl rfl rfl ?_
    refine RL.nil ?_
    refine NQ.seq ?_
    refine CW.only (.cons (k := 1) rfl (.cons (k := 2) rfl (.cons (k := 3) rfl (.cons (k := 6) rfl (.cons (k := 9) rfl (.cons (k := 10) rfl .nil)))))) ?_
    refine CW.seq ?_
    refine CW.region (ef := []) (bk := []) ?_
    refine RL.move rfl rfl rfl rfl ?_
    refine RL.bin rfl rfl rfl rfl rfl rfl ?_
    refine RL.move rfl rfl rfl rfl ?_
    -- STOP: part 33; op 3: d=34 ["load", 33, ["t", 9]] guard=[2, False] (law.go:41)
    refine RL.cast (d := 33) (v' := .bool false) rfl (rfl) ?_
    refine RL.loadW Try.isAgg33 Try.sizeOf33 rfl rfl rfl rfl (by repeat (first | exact List.Mem.head _ | apply List.Mem.tail)) (by first | rfl | assumption | (simp only [List.length_map]; assumption) | (simp only [List.length_map, List.length_replicate]; done) | (simp; done)) ?_
    refine RL.loadW Try.isAgg33 Try.sizeOf33 rfl rfl rfl rfl (by repeat (first | exact List.Mem.head _ | apply List.Mem.tail)) (by first | rfl | assumption | (simp only [List.length_map]; assumption) | (simp only [List.length_map, List.length_replicate]; done) | (simp; done)) ?_
    -- STOP: op; op 5: d=36 ["binOp", "Go.BinOp.neq", 33, ["t", 34], ["t", 35], 33] guard=[2, False] (law.go:41)
    refine RL.cmp rfl rfl rfl rfl rfl (neq_rdg (r := true) hr hr (by simp) _ _) ?_
    refine RL.pickF rfl rfl rfl rfl rfl ?_
    refine RL.nil ?_
    refine NQ.seq ?_
    refine CW.only (.cons (k := 1) rfl (.cons (k := 2) rfl (.cons (k := 6) rfl (.cons (k := 37) rfl .nil)))) ?_
    -- STOP: if; todo top: ["code", ["cond", ["t", 37], ["seq", ["region", 7, [{"d": 6, "op": ["assign", ["c", ["bool", false]]], "ty": 4, "pos": "law.go:42", "after": [], "guard": null}], false], ["ret"]], ["skip"]]]
    refine CW.condF rfl (rfl) ?_
    refine CW.skip ?_
    refine NQ.seq ?_
    refine CW.seq ?_
    refine CW.region (ef := [6, 7]) (bk := [7]) ?_
    refine RL.move rfl rfl rfl rfl ?_
    refine RL.move rfl rfl rfl rfl ?_
    refine RL.callv (get_all k p l.length c l rfl hc) Try.call23 rfl rfl rfl rfl (by repeat (first | exact Lend.nil | (refine Lend.inI ?_ ?_; (solve | (repeat (first | exact List.Mem.head _ | apply List.Mem.tail)))) | (refine Lend.inH ?_ ?_; (solve | (repeat (first | exact List.Mem.head _ | apply List.Mem.tail)))))) ?_
    refine RL.move rfl rfl rfl rfl ?_
    -- STOP: op; op 4: d=42 ["extract", ["t", 38], 0] guard=None (law.go:45)
    rw [gotV_eq]
    refine RL.extract rfl rfl rfl rfl rfl ?_
    refine RL.extract rfl rfl rfl rfl rfl ?_
    refine RL.alloc Try.zeroValue33 rfl rfl rfl rfl rfl ?_
    intro b3
    refine RL.storeW Try.sizeOf33 rfl rfl rfl rfl rfl rfl rfl (by first | rfl | exact ones_map one8 _ | exact ones_map (fun _ => rfl) _) (by repeat (first | exact Upd.here | apply Upd.there)) (by first | rfl | assumption | (simp only [List.length_map]; assumption) | (simp only [List.length_map, List.length_replicate]; done) | (simp; done)) (by first | rfl | assumption | (simp only [List.length_map]; assumption) | (simp only [List.length_map, List.length_replicate]; done) | (simp; done)) ?_
    refine RL.assign rfl rfl rfl rfl ?_
    refine RL.nil ?_
    refine NQ.seq ?_
    refine CW.only (.cons (k := 2) rfl (.cons (k := 11) rfl (.cons (k := 12) rfl .nil))) ?_
    refine CW.seq ?_
    refine CW.seq ?_
    refine CW.region (ef := []) (bk := []) ?_
    refine RL.move rfl rfl rfl rfl ?_
    refine RL.bin rfl rfl rfl rfl rfl rfl ?_
    refine RL.nil ?_
    refine NQ.seq ?_
    -- STOP: if; todo top: ["code", ["cond", ["t", 45], ["seq", ["region", 10, [{"d": 46, "op": ["load", 33, ["t", 11]], "ty": 33, "pos": "law.go:47", "after": [], "guard": null}, {"d": 47, "op": ["build", 33, []], "ty": 33, "p
    refine CW.cond rfl (fun h2 => ?_) (fun h2 => ?_)
    ·
      refine CW.seq ?_
      refine CW.region (ef := []) (bk := []) ?_
      refine RL.loadW Try.isAgg33 Try.sizeOf33 rfl rfl rfl rfl (by repeat (first | exact List.Mem.head _ | apply List.Mem.tail)) (by first | rfl | assumption | (simp only [List.length_map]; assumption) | (simp only [List.length_map, List.length_replicate]; done) | (simp; done)) ?_
      -- STOP: op; op 1: d=47 ["build", 33, []] guard=None (law.go:47)
      have hn : gotR k l = none := by
        cases hg : gotR k l with
        | none => rfl
        | some x => rw [hg] at h2; simp at h2
      rw [hn]
      refine RL.buildS (rz 0).cells Try.zeroValue33 pl_33 rfl rfl rfl rfl rfl ?_
      -- STOP: op; op 2: d=48 ["binOp", "Go.BinOp.eql", 33, ["t", 46], ["t", 47], 33] guard=None (law.go:47)
      refine RL.cmp rfl rfl rfl rfl rfl (eql_rdg (r := true) rz0_ok rz0_ok (by simp) _ _) ?_
      refine RL.assign rfl rfl rfl rfl ?_
      refine RL.nil ?_
      refine NQ.seq ?_
      refine CW.only (.cons (k := 2) rfl (.cons (k := 6) rfl (.cons (k := 11) rfl .nil))) ?_
      refine CW.ret ?_
      refine RQ.seq ?_
      -- STOP: ret; end
      exact RQ.post (res1 rfl rfl) (Split.none _) ⟨rfl, rfl, rfl⟩
    ·
      obtain ⟨x, hx⟩ : ∃ x, gotR k l = some x := by
        cases hg : gotR k l with
        | none => rw [hg] at h2; simp at h2
        | some x => exact ⟨x, rfl⟩
      have hxo : x.Ok := by rw [hx] at hg; exact hg
      obtain ⟨-, e1, e2⟩ := put_got hx
      rw [hx]
      refine CW.skip ?_
      refine NQ.seq ?_
      refine CW.seq ?_
      refine CW.region (ef := [1]) (bk := []) ?_
      refine RL.loadW Try.isAgg33 Try.sizeOf33 rfl rfl rfl rfl (by repeat (first | exact List.Mem.head _ | apply List.Mem.tail)) (by first | rfl | assumption | (simp only [List.length_map]; assumption) | (simp only [List.length_map, List.length_replicate]; done) | (simp; done)) ?_
      refine RL.call (put_any x hxo) Try.call15 rfl rfl rfl rfl rfl (by repeat (first | exact Pick.nil | apply Pick.take | apply Pick.leave)) (by repeat (first | exact Lend.nil | (refine Lend.inI ?_ ?_; (solve | (repeat (first | exact List.Mem.head _ | apply List.Mem.tail)))) | (refine Lend.inH ?_ ?_; (solve | (repeat (first | exact List.Mem.head _ | apply List.Mem.tail)))))) (.inl rfl) ?_
      -- STOP: called; op 2: d=49 ["move", ["t", 51]] guard=None (law.go:49)
      rintro _ _ _ ⟨ob, cb, rfl, rfl, rfl⟩
      rw [e1, e2]
      refine RL.move rfl rfl rfl rfl ?_
      refine RL.extract rfl rfl rfl rfl rfl ?_
      refine RL.extract rfl rfl rfl rfl rfl ?_
      refine RL.assign rfl rfl rfl rfl ?_
      refine RL.assign rfl rfl rfl rfl ?_
      refine RL.nil ?_
      refine NQ.seq ?_
      refine CW.only (.cons (k := 2) rfl (.cons (k := 13) rfl (.cons (k := 14) rfl .nil))) ?_
      refine CW.seq ?_
      refine CW.region (ef := []) (bk := []) ?_
      refine RL.move rfl rfl rfl rfl ?_
      refine RL.bin rfl rfl rfl rfl rfl rfl ?_
      refine RL.move rfl rfl rfl rfl ?_
      -- STOP: part 56; op 3: d=57 ["move", ["t", 13]] guard=[2, True] (law.go:50)
      refine RL.cast (d := 56) (v' := .bool true) rfl (rfl) ?_
      refine RL.move rfl rfl rfl rfl ?_
      refine RL.move rfl rfl rfl rfl ?_
      refine RL.callv (same_any (ob.map fun b => ⟨b, 0, none⟩) p l.length l.length cb c l l) Try.call19 rfl rfl rfl rfl (Lend.own (by repeat (first | exact List.Mem.head _ | apply List.Mem.tail)) (.inI (by repeat (first | exact List.Mem.head _ | apply List.Mem.tail)) .nil)) ?_
      refine RL.pickT rfl rfl rfl rfl rfl ?_
      refine RL.assign rfl rfl rfl rfl ?_
      refine RL.nil ?_
      refine NQ.seq ?_
      refine CW.only (.cons (k := 6) rfl .nil) ?_
      refine CW.ret ?_
      -- STOP: ret; end
      exact RQ.post (res1 rfl rfl) (Split.none _) ⟨by simp, rfl, rfl⟩
  ·
    refine CW.skip ?_
    refine NQ.seq ?_
    refine CW.only (.cons (k := 1) rfl (.cons (k := 2) rfl .nil)) ?_
    refine CW.seq ?_
    refine CW.region (ef := [6, 7]) (bk := [7]) ?_
    refine RL.move rfl rfl rfl rfl ?_
    refine RL.move rfl rfl rfl rfl ?_
    refine RL.callv (get_all k p l.length c l rfl hc) Try.call23 rfl rfl rfl rfl (by repeat (first | exact Lend.nil | (refine Lend.inI ?_ ?_; (solve | (repeat (first | exact List.Mem.head _ | apply List.Mem.tail)))) | (refine Lend.inH ?_ ?_; (solve | (repeat (first | exact List.Mem.head _ | apply List.Mem.tail)))))) ?_
    refine RL.move rfl rfl rfl rfl ?_
    -- STOP: op; op 4: d=42 ["extract", ["t", 38], 0] guard=None (law.go:45)
    rw [gotV_eq]
    refine RL.extract rfl rfl rfl rfl rfl ?_
    refine RL.extract rfl rfl rfl rfl rfl ?_
    refine RL.alloc Try.zeroValue33 rfl rfl rfl rfl rfl ?_
    intro b2
    refine RL.storeW Try.sizeOf33 rfl rfl rfl rfl rfl rfl rfl (by first | rfl | exact ones_map one8 _ | exact ones_map (fun _ => rfl) _) (by repeat (first | exact Upd.here | apply Upd.there)) (by first | rfl | assumption | (simp only [List.length_map]; assumption) | (simp only [List.length_map, List.length_replicate]; done) | (simp; done)) (by first | rfl | assumption | (simp only [List.length_map]; assumption) | (simp only [List.length_map, List.length_replicate]; done) | (simp; done)) ?_
    refine RL.assign rfl rfl rfl rfl ?_
    refine RL.nil ?_
    refine NQ.seq ?_
    refine CW.only (.cons (k := 2) rfl (.cons (k := 11) rfl (.cons (k := 12) rfl .nil))) ?_
    refine CW.seq ?_
    refine CW.seq ?_
    refine CW.region (ef := []) (bk := []) ?_
    refine RL.move rfl rfl rfl rfl ?_
    refine RL.bin rfl rfl rfl rfl rfl rfl ?_
    refine RL.nil ?_
    refine NQ.seq ?_
    -- STOP: if; todo top: ["code", ["cond", ["t", 45], ["seq", ["region", 10, [{"d": 46, "op": ["load", 33, ["t", 11]], "ty": 33, "pos": "law.go:47", "after": [], "guard": null}, {"d": 47, "op": ["build", 33, []], "ty": 33, "p
    refine CW.cond rfl (fun h2 => ?_) (fun h2 => ?_)
    ·
      refine CW.seq ?_
      refine CW.region (ef := []) (bk := []) ?_
      refine RL.loadW Try.isAgg33 Try.sizeOf33 rfl rfl rfl rfl (by repeat (first | exact List.Mem.head _ | apply List.Mem.tail)) (by first | rfl | assumption | (simp only [List.length_map]; assumption) | (simp only [List.length_map, List.length_replicate]; done) | (simp; done)) ?_
      -- STOP: op; op 1: d=47 ["build", 33, []] guard=None (law.go:47)
      have hn : gotR k l = none := by
        cases hg : gotR k l with
        | none => rfl
        | some x => rw [hg] at h2; simp at h2
      rw [hn]
      refine RL.buildS (rz 0).cells Try.zeroValue33 pl_33 rfl rfl rfl rfl rfl ?_
      -- STOP: op; op 2: d=48 ["binOp", "Go.BinOp.eql", 33, ["t", 46], ["t", 47], 33] guard=None (law.go:47)
      refine RL.cmp rfl rfl rfl rfl rfl (eql_rdg (r := true) rz0_ok rz0_ok (by simp) _ _) ?_
      refine RL.assign rfl rfl rfl rfl ?_
      refine RL.nil ?_
      refine NQ.seq ?_
      refine CW.only (.cons (k := 2) rfl (.cons (k := 6) rfl (.cons (k := 11) rfl .nil))) ?_
      refine CW.ret ?_
      refine RQ.seq ?_
      -- STOP: ret; end
      exact RQ.post (res1 rfl rfl) (Split.none _) ⟨rfl, rfl, rfl⟩
    ·
      obtain ⟨x, hx⟩ : ∃ x, gotR k l = some x := by
        cases hg : gotR k l with
        | none => rw [hg] at h2; simp at h2
        | some x => exact ⟨x, rfl⟩
      have hxo : x.Ok := by rw [hx] at hg; exact hg
      obtain ⟨-, e1, e2⟩ := put_got hx
      rw [hx]
      refine CW.skip ?_
      refine NQ.seq ?_
      refine CW.seq ?_
      refine CW.region (ef := [1]) (bk := []) ?_
      refine RL.loadW Try.isAgg33 Try.sizeOf33 rfl rfl rfl rfl (by repeat (first | exact List.Mem.head _ | apply List.Mem.tail)) (by first | rfl | assumption | (simp only [List.length_map]; assumption) | (simp only [List.length_map, List.length_replicate]; done) | (simp; done)) ?_
      refine RL.call (put_any x hxo) Try.call15 rfl rfl rfl rfl rfl (by repeat (first | exact Pick.nil | apply Pick.take | apply Pick.leave)) (by repeat (first | exact Lend.nil | (refine Lend.inI ?_ ?_; (solve | (repeat (first | exact List.Mem.head _ | apply List.Mem.tail)))) | (refine Lend.inH ?_ ?_; (solve | (repeat (first | exact List.Mem.head _ | apply List.Mem.tail)))))) (.inl rfl) ?_
      -- STOP: called; op 2: d=49 ["move", ["t", 51]] guard=None (law.go:49)
      rintro _ _ _ ⟨ob, cb, rfl, rfl, rfl⟩
      rw [e1, e2]
      refine RL.move rfl rfl rfl rfl ?_
      refine RL.extract rfl rfl rfl rfl rfl ?_
      refine RL.extract rfl rfl rfl rfl rfl ?_
      refine RL.assign rfl rfl rfl rfl ?_
      refine RL.assign rfl rfl rfl rfl ?_
      refine RL.nil ?_
      refine NQ.seq ?_
      refine CW.only (.cons (k := 2) rfl (.cons (k := 13) rfl (.cons (k := 14) rfl .nil))) ?_
      refine CW.seq ?_
      refine CW.region (ef := []) (bk := []) ?_
      refine RL.move rfl rfl rfl rfl ?_
      refine RL.bin rfl rfl rfl rfl rfl rfl ?_
      refine RL.move rfl rfl rfl rfl ?_
      -- STOP: part 56; op 3: d=57 ["move", ["t", 13]] guard=[2, True] (law.go:50)
      refine RL.cast (d := 56) (v' := .bool true) rfl (rfl) ?_
      refine RL.move rfl rfl rfl rfl ?_
      refine RL.move rfl rfl rfl rfl ?_
      refine RL.callv (same_any (ob.map fun b => ⟨b, 0, none⟩) p l.length l.length cb c l l) Try.call19 rfl rfl rfl rfl (Lend.own (by repeat (first | exact List.Mem.head _ | apply List.Mem.tail)) (.inI (by repeat (first | exact List.Mem.head _ | apply List.Mem.tail)) .nil)) ?_
      refine RL.pickT rfl rfl rfl rfl rfl ?_
      refine RL.assign rfl rfl rfl rfl ?_
      refine RL.nil ?_
      refine NQ.seq ?_
      refine CW.only (.cons (k := 6) rfl .nil) ?_
      refine CW.ret ?_
      -- STOP: ret; end
      exact RQ.post (res1 rfl rfl) (Split.none _) ⟨by simp, rfl, rfl⟩
theorem kindBack_call (W : World) (r : Rdg) (k : Int) (x : Sl B8) (hr : rRdg.ok r) (hk : rInt.ok k) (hx : rBytes.ok x) (_ : ∀ y ∈ rRdg.its r, y.A W) (_ : ∀ y ∈ rInt.its k, y.A W) (tx : ∀ y ∈ rBytes.its x, y.A W) :
    Calls Try.prog 5 #[rRdg.val r, rInt.val k, rBytes.val x] W (fun e w' => e = .returned (.bool true) ∧ RowKit.Below W.heap.size W w') :=
  (kindBack_walk r hr k hk x.p x.c x.l hx.1).lawI (fun z hz => by rw [List.mem_singleton.1 hz]; exact tx _ (List.Mem.head _))
end Go.Proofs.Ytflpiaeffnoepaa
