import Derived.Test.YtflpiaeffnoepaaSmall
namespace Go.Proofs.Ytflpiaeffnoepaa
open Go.PK

/-- A reader of bytes. -/
def rdr (d : Nat) (p : Option Addr) (n c : Nat) : It := cel d [.slice p n c] 182
/-- What is behind so many bytes. -/
def RdR (d : Nat) (p : Option Addr) (l : List B8) (k : Nat) (v : Value) : Value → List It → List It → Prop := fun v' I' H' => v' = v ∧ I' = [] ∧ ∃ p' c', H' = [rdr d p' (l.drop k).length c'] ∧ (l.drop k).length ≤ c' ∧ Lies (sls p 1 l.length (bytes l)) (sls p' 1 (l.drop k).length (bytes (l.drop k)))

theorem take_any (d : Nat) (p : Option Addr) (n m c : Nat) (h1 : n ≤ m) (h2 : m ≤ c) : Spc Try.prog 141 #[.pointer (some ⟨d, 0, none⟩), .int .i64 (n : Int)] [] [rdr d p m c]
    (fun v I' H' => v = .slice (if c = 0 then p else p.map (·.add (0 * 1))) n c ∧ I' = [] ∧ H' = [rdr d (if c = n then p else p.map (·.add (n * 1))) (m - n) (c - n)]) := by
  unfold rdr
  refine Spc.enter Try.func141 rfl rfl rfl (fun w0 hw0 => ?_)
  refine CW.seq ?_
  refine CW.region (ef := []) (bk := []) ?_
  refine RL.assign rfl rfl rfl rfl ?_
  refine RL.nil ?_
  refine NQ.seq ?_
  refine CW.seq ?_
  refine CW.region (ef := []) (bk := []) ?_
  refine RL.move rfl rfl rfl rfl ?_
  refine RL.nilCheck rfl rfl rfl rfl ?_
  refine RL.fieldAddr fa_182_0 rfl rfl rfl rfl ?_
  refine RL.load Try.isAgg34 rfl rfl rfl rfl (by first | assumption | (apply Rd.get; (solve | (repeat (first | exact List.Mem.head _ | apply List.Mem.tail))); assumption) | (apply Rd.getS; (solve | (repeat (first | exact List.Mem.head _ | apply List.Mem.tail))); assumption) | (apply Rd.getO; (solve | (repeat (first | exact List.Mem.head _ | apply List.Mem.tail))); assumption) | (apply Rd.getI; (solve | (repeat (first | exact List.Mem.head _ | apply List.Mem.tail))); assumption) | (apply Rd.cel; (solve | (repeat (first | exact List.Mem.head _ | apply List.Mem.tail))); exact rfl) | (apply Rd.celI; (solve | (repeat (first | exact List.Mem.head _ | apply List.Mem.tail))); exact rfl)) ?_
  refine RL.move rfl rfl rfl rfl ?_
  -- STOP: op; op 5: d=11 ["slice", 34, ["t", 9], null, ["t", 10], null] guard=None (kind.go:140)
  refine RL.slice (lo := 0) (hi := n) Try.runUnderlying34 Try.sizeOf5 rfl rfl rfl rfl rfl rfl (by omega) (by omega) ?_
  refine RL.assign rfl rfl rfl rfl ?_
  refine RL.nil ?_
  refine NQ.seq ?_
  refine CW.only (.cons (k := 0) rfl (.cons (k := 1) rfl (.cons (k := 5) rfl .nil))) ?_
  refine CW.seq ?_
  refine CW.region (ef := [9]) (bk := [9]) ?_
  refine RL.move rfl rfl rfl rfl ?_
  refine RL.move rfl rfl rfl rfl ?_
  refine RL.nilCheck rfl rfl rfl rfl ?_
  refine RL.fieldAddr fa_182_0 rfl rfl rfl rfl ?_
  refine RL.load Try.isAgg34 rfl rfl rfl rfl (by first | assumption | (apply Rd.get; (solve | (repeat (first | exact List.Mem.head _ | apply List.Mem.tail))); assumption) | (apply Rd.getS; (solve | (repeat (first | exact List.Mem.head _ | apply List.Mem.tail))); assumption) | (apply Rd.getO; (solve | (repeat (first | exact List.Mem.head _ | apply List.Mem.tail))); assumption) | (apply Rd.getI; (solve | (repeat (first | exact List.Mem.head _ | apply List.Mem.tail))); assumption) | (apply Rd.cel; (solve | (repeat (first | exact List.Mem.head _ | apply List.Mem.tail))); exact rfl) | (apply Rd.celI; (solve | (repeat (first | exact List.Mem.head _ | apply List.Mem.tail))); exact rfl)) ?_
  refine RL.move rfl rfl rfl rfl ?_
  -- STOP: op; op 6: d=18 ["slice", 34, ["t", 16], ["t", 17], null, null] guard=None (kind.go:141)
  refine RL.slice (lo := n) (hi := m) Try.runUnderlying34 Try.sizeOf5 rfl rfl rfl rfl rfl rfl (by omega) (by omega) ?_
  refine RL.nilCheck rfl rfl rfl rfl ?_
  refine RL.fieldAddr fa_182_0 rfl rfl rfl rfl ?_
  refine RL.store (vs := [_]) Try.sizeOf34 rfl rfl rfl rfl rfl rfl rfl rfl rfl (by repeat (first | exact Upd.here | apply Upd.there)) ?_
  refine RL.nil ?_
  refine NQ.seq ?_
  refine CW.only (.cons (k := 5) rfl .nil) ?_
  refine CW.seq ?_
  refine CW.region (ef := []) (bk := []) ?_
  refine RL.move rfl rfl rfl rfl ?_
  refine RL.assign rfl rfl rfl rfl ?_
  refine RL.nil ?_
  refine NQ.seq ?_
  refine CW.ret ?_
  -- STOP: ret; end
  exact RQ.post (res1 rfl rfl) (.keep .nil) ⟨rfl, rfl, rfl⟩

theorem rnum_any (d : Nat) (p : Option Addr) (n c : Nat) (l : List B8) (hn : n ≤ l.length) (hc : l.length ≤ c) (h8 : n ≤ 8) : Spc Try.prog 138 #[.pointer (some ⟨d, 0, none⟩), .int .i64 (n : Int)] [sls p 1 l.length (bytes l)] [rdr d p l.length c]
    (RdR d p l n (.int .u64 (numB (l.take n) : Int))) := by
  refine Spc.enter Try.func138 rfl rfl rfl (fun w0 hw0 => ?_)
  refine CW.seq ?_
  refine CW.region (ef := []) (bk := []) ?_
  refine RL.assign rfl rfl rfl rfl ?_
  refine RL.nil ?_
  refine NQ.seq ?_
  refine CW.seq ?_
  refine CW.region (ef := []) (bk := []) ?_
  refine RL.assign rfl rfl rfl rfl ?_
  refine RL.nil ?_
  refine NQ.seq ?_
  refine CW.seq ?_
  refine CW.seq ?_
  refine CW.region (ef := [2]) (bk := [2]) ?_
  refine RL.move rfl rfl rfl rfl ?_
  refine RL.move rfl rfl rfl rfl ?_
  refine RL.call (take_any d p n l.length c hn hc) Try.call141 rfl rfl rfl rfl rfl (by repeat (first | exact Pick.nil | apply Pick.take | apply Pick.leave)) (by repeat (first | exact Lend.nil | (refine Lend.inI ?_ ?_; (solve | (repeat (first | exact List.Mem.head _ | apply List.Mem.tail)))) | (refine Lend.inH ?_ ?_; (solve | (repeat (first | exact List.Mem.head _ | apply List.Mem.tail)))))) (.inr rfl) ?_
  -- STOP: called; op 3: d=11 ["builtin", "Go.Builtin.len", [["t", 10]], [34]] guard=None (kind.go:148)
  rintro _ _ _ ⟨rfl, rfl, rfl⟩
  refine RL.lenS Try.runUnderlying34 rfl rfl rfl rfl ?_
  refine RL.move rfl rfl rfl rfl ?_
  refine RL.nil ?_
  refine NQ.seq ?_
  refine CW.block ?_
  -- STOP: loop; todo top: ["code", ["loop", ["seq", ["region", 3, [{"d": 13, "op": ["binOp", "Go.BinOp.lss", 3, ["t", 12], ["t", 11], 3], "ty": 0, "pos": "kind.go:148", "after": [], "guard": null}], false], ["seq", ["cond", ["
  have hs := Lies.takeB (p := p) (c := c) (k := n) (m := l) hn hc
  generalize (if c = 0 then p else p.map (·.add (0 * 1))) = q at hs ⊢
  refine CW.sub hs (by repeat (first | exact List.Mem.head _ | apply List.Mem.tail)) ?_
  generalize hm : l.take n = m at hs ⊢
  have hml : m.length = n := by rw [← hm, List.length_take]; omega
  subst hml
  refine CW.loop (γ := Nat) (fun i => i ≤ m.length) (fun i => [(5, .int .u64 (numB (m.take i) : Int)), (10, .slice q m.length c), (11, .int .i64 (m.length : Int)), (12, .int .i64 (i : Int))]) (fun _ => [sls q 1 m.length (bytes m)]) (fun _ => [rdr d (if c = m.length then p else p.map (·.add (m.length * 1))) (l.length - m.length) (c - m.length)]) (fun i => m.length - i) 0 (by omega)
    (.cons (by simp; rfl) (.cons rfl (.cons rfl (.cons rfl .nil)))) (fun w h => h.les (fun x hx => by simp at hx; simp [hx]) (Les.refl _)) ?_
  intro i hi
  refine CW.fact (p := q = none → m.length = 0) (fun w hC e => sls_nil (hC.s.i _ (List.Mem.head _)) e) (fun hpp => ?_)
  refine CW.seq ?_
  refine CW.region (ef := []) (bk := []) ?_
  refine RL.bin rfl rfl rfl rfl rfl rfl ?_
  refine RL.nil ?_
  refine NQ.seq ?_
  refine CW.seq ?_
  -- STOP: if; todo top: ["code", ["cond", ["t", 13], ["skip"], ["exit", 0]]]
  refine CW.cond rfl (fun hlt => ?_) (fun hlt => ?_)
  ·
    refine CW.skip ?_
    refine NQ.seq ?_
    refine CW.seq ?_
    refine CW.block ?_
    refine CW.seq ?_
    refine CW.region (ef := []) (bk := []) ?_
    -- STOP: op; op 0: d=14 ["indexAddr", 34, ["t", 10], ["t", 12]] guard=None (kind.go:148)
    have hlt : i < m.length := by simp at hlt; omega
    have hv : (bytes m)[i * 1]? = some (U8 m[i]) := by simp [hlt]
    obtain ⟨a, rfl⟩ : ∃ a, q = some a := by
      cases q with
      | none => exact absurd (hpp rfl) (by omega)
      | some a => exact ⟨a, rfl⟩
    refine RL.idx (j := i) Try.runUnderlying34 Try.sizeOf5 rfl rfl rfl rfl rfl rfl hlt ?_
    refine RL.load Try.isAgg5 rfl rfl rfl rfl (by first | assumption | (apply Rd.get; (solve | (repeat (first | exact List.Mem.head _ | apply List.Mem.tail))); assumption) | (apply Rd.getS; (solve | (repeat (first | exact List.Mem.head _ | apply List.Mem.tail))); assumption) | (apply Rd.getO; (solve | (repeat (first | exact List.Mem.head _ | apply List.Mem.tail))); assumption) | (apply Rd.getI; (solve | (repeat (first | exact List.Mem.head _ | apply List.Mem.tail))); assumption) | (apply Rd.cel; (solve | (repeat (first | exact List.Mem.head _ | apply List.Mem.tail))); exact rfl) | (apply Rd.celI; (solve | (repeat (first | exact List.Mem.head _ | apply List.Mem.tail))); exact rfl)) ?_
    refine RL.assign rfl rfl rfl rfl ?_
    refine RL.nil ?_
    refine NQ.seq ?_
    refine CW.region (ef := []) (bk := []) ?_
    refine RL.move rfl rfl rfl rfl ?_
    refine RL.shl 8 rfl rfl rfl rfl rfl rfl (by decide) ?_
    refine RL.move rfl rfl rfl rfl ?_
    refine RL.conv Try.runUnderlying5 Try.runUnderlying30 rfl rfl rfl rfl ?_
    refine RL.bin rfl rfl rfl rfl rfl rfl ?_
    refine RL.assign rfl rfl rfl rfl ?_
    refine RL.nil ?_
    refine NQ.block ?_
    refine NQ.seq ?_
    refine CW.only (.cons (k := 5) rfl (.cons (k := 10) rfl (.cons (k := 11) rfl (.cons (k := 12) rfl .nil)))) ?_
    refine CW.region (ef := []) (bk := []) ?_
    refine RL.binX rfl rfl rfl rfl rfl rfl (wrapV_i64 (by omega) (by omega)) ?_
    refine RL.move rfl rfl rfl rfl ?_
    refine RL.nil ?_
    -- STOP: round; todo top: ["N"]
    have hx : numB (m.take i) < 72057594037927936 := by
      have h := numB_lt (m.take i)
      rw [List.length_take, Nat.min_eq_left hi] at h
      have h2 : 256 ^ i ≤ 256 ^ 7 := Nat.pow_le_pow_right (by decide) (by omega)
      omega
    rw [orA _ _ hx, ← numB_take m i hlt]
    exact NQ.round (g := i) (i + 1) hlt (by omega) (.cons rfl (.cons rfl (.cons rfl (.cons rfl .nil)))) (fun w h => h)
  ·
    refine CW.exit ?_
    refine XQ.seq ?_
    refine XQ.seq ?_
    refine XQ.hit ?_
    refine NQ.seq ?_
    refine CW.seq ?_
    refine CW.region (ef := []) (bk := []) ?_
    refine RL.move rfl rfl rfl rfl ?_
    refine RL.assign rfl rfl rfl rfl ?_
    refine RL.nil ?_
    refine NQ.seq ?_
    refine CW.only (.cons (k := 4) rfl .nil) ?_
    refine CW.ret ?_
    -- STOP: ret; end
    have him : i = m.length := by simp at hlt; omega
    subst him
    rw [List.take_length]
    exact RQ.post (res1 rfl rfl) (.keep .nil) ⟨rfl, rfl, _, _, by rw [List.length_drop], by rw [List.length_drop]; omega, Lies.dropB hn hc⟩

theorem four {l : List B8} (h : 4 ≤ l.length) : ∃ a b c d t, l = a :: b :: c :: d :: t := by
  match l, h with
  | a :: b :: c :: d :: t, _ => exact ⟨a, b, c, d, t, rfl⟩
theorem pre4 (a b c d : B8) (t : List B8) : ∀ (q : Nat) (u : Value), (bytes [a, b, c, d])[q]? = some u → (bytes (a :: b :: c :: d :: t))[0 * 1 + q]? = some u := by
  intro q u h
  match q, h with
  | 0, h => exact h
  | 1, h => exact h
  | 2, h => exact h
  | 3, h => exact h
  | _ + 4, h => simp at h
theorem sget_any (p : Option Addr) (n c : Nat) (l : List B8) (hn : l.length = n) (h4 : 4 ≤ n) (hc : n ≤ c) : Spc Try.prog 177 #[.slice p n c] [sls p 1 n (bytes l)] [] (Is (.tuple #[.int .i32 (IntKind.i32.wrap (numB (l.take 4))), .int .i64 0])) := by
  obtain ⟨x1, x2, x3, x4, t, rfl⟩ := four (l := l) (by omega)
  refine Spc.some' (g := fun p => #[.slice p n c]) (I := fun p => [sls p 1 n (bytes (x1 :: x2 :: x3 :: x4 :: t))]) (H := fun _ => []) (R := fun _ => Is _) (List.Mem.head _) (by omega) (fun q _ => ?_)
  refine Spc.enter Try.func177 rfl rfl rfl (fun w0 hw0 => ?_)
  refine CW.seq ?_
  refine CW.region (ef := []) (bk := []) ?_
  refine RL.assign rfl rfl rfl rfl ?_
  refine RL.assign rfl rfl rfl rfl ?_
  refine RL.nil ?_
  refine NQ.seq ?_
  refine CW.seq ?_
  refine CW.seq ?_
  refine CW.region (ef := []) (bk := []) ?_
  refine RL.move rfl rfl rfl rfl ?_
  refine RL.lenS Try.runUnderlying34 rfl rfl rfl rfl ?_
  refine RL.bin rfl rfl rfl rfl rfl rfl ?_
  refine RL.nil ?_
  refine NQ.seq ?_
  -- STOP: if; todo top: ["code", ["cond", ["t", 7], ["seq", ["region", 2, [{"d": 2, "op": ["assign", ["c", ["int", "Go.IntKind.i32", 0]]], "ty": 22, "pos": "small.go:50", "after": [], "guard": null}, {"d": 3, "op": ["assign"
  refine CW.condF rfl ((by simp; omega)) ?_
  refine CW.skip ?_
  refine NQ.seq ?_
  refine CW.seq ?_
  refine CW.region (ef := [4, 5]) (bk := [5]) ?_
  refine RL.move rfl rfl rfl rfl ?_
  -- STOP: op; op 1: d=9 ["slice", 34, ["t", 8], null, ["c", ["int", "Go.IntKind.i64", 4]], null] guard=None (small.go:52)
  refine RL.sliceP (lo := 0) (hi := 4) Try.runUnderlying34 Try.sizeOf5 rfl rfl rfl rfl rfl rfl (by omega) (by omega) (by omega) ?_
  refine RL.toArr Try.runUnderlying322 rfl rfl rfl rfl (by first | decide | omega) ?_
  -- STOP: op; op 3: d=11 ["load", 322, ["t", 10]] guard=None (small.go:52)
  refine RL.loadN (vs := bytes [x1, x2, x3, x4]) Try.isAgg322 Try.sizeOf322 rfl rfl rfl rfl ((Rds.sls (by repeat (first | exact List.Mem.head _ | apply List.Mem.tail))).part (pre4 _ _ _ _ _)) ?_
  refine RL.alloc Try.zeroValue322 rfl rfl rfl rfl rfl ?_
  intro b1
  refine RL.storeW Try.sizeOf322 rfl rfl rfl rfl rfl rfl rfl (by first | rfl | exact ones_map one8 _ | exact ones_map (fun _ => rfl) _) (by repeat (first | exact Upd.here | apply Upd.there)) (by first | rfl | assumption | (simp only [List.length_map]; assumption) | (simp only [List.length_map, List.length_replicate]; done) | (simp; done)) (by first | rfl | assumption | (simp only [List.length_map]; assumption) | (simp only [List.length_map, List.length_replicate]; done) | (simp; done)) ?_
  refine RL.nil ?_
  refine NQ.seq ?_
  refine CW.only (.cons (k := 4) rfl .nil) ?_
  refine CW.seq ?_
  refine CW.region (ef := []) (bk := []) ?_
  refine RL.idxAAt (j := 0) Try.runUnderlying322 Try.sizeOf5 rfl rfl rfl rfl rfl rfl (by decide) ?_
  refine RL.load Try.isAgg5 rfl rfl rfl rfl (by first | assumption | (apply Rd.get; (solve | (repeat (first | exact List.Mem.head _ | apply List.Mem.tail))); assumption) | (apply Rd.getS; (solve | (repeat (first | exact List.Mem.head _ | apply List.Mem.tail))); assumption) | (apply Rd.getO; (solve | (repeat (first | exact List.Mem.head _ | apply List.Mem.tail))); assumption) | (apply Rd.getI; (solve | (repeat (first | exact List.Mem.head _ | apply List.Mem.tail))); assumption) | (apply Rd.cel; (solve | (repeat (first | exact List.Mem.head _ | apply List.Mem.tail))); exact rfl) | (apply Rd.celI; (solve | (repeat (first | exact List.Mem.head _ | apply List.Mem.tail))); exact rfl)) ?_
  refine RL.widen Try.runUnderlying5 Try.runUnderlying25 rfl rfl rfl rfl ?_
  refine RL.shl32 24 rfl rfl rfl rfl rfl rfl (by decide) ?_
  refine RL.idxAAt (j := 1) Try.runUnderlying322 Try.sizeOf5 rfl rfl rfl rfl rfl rfl (by decide) ?_
  refine RL.load Try.isAgg5 rfl rfl rfl rfl (by first | assumption | (apply Rd.get; (solve | (repeat (first | exact List.Mem.head _ | apply List.Mem.tail))); assumption) | (apply Rd.getS; (solve | (repeat (first | exact List.Mem.head _ | apply List.Mem.tail))); assumption) | (apply Rd.getO; (solve | (repeat (first | exact List.Mem.head _ | apply List.Mem.tail))); assumption) | (apply Rd.getI; (solve | (repeat (first | exact List.Mem.head _ | apply List.Mem.tail))); assumption) | (apply Rd.cel; (solve | (repeat (first | exact List.Mem.head _ | apply List.Mem.tail))); exact rfl) | (apply Rd.celI; (solve | (repeat (first | exact List.Mem.head _ | apply List.Mem.tail))); exact rfl)) ?_
  refine RL.widen Try.runUnderlying5 Try.runUnderlying25 rfl rfl rfl rfl ?_
  refine RL.shl32 16 rfl rfl rfl rfl rfl rfl (by decide) ?_
  refine RL.bv32 (a := _) (b := _) or32 rfl rfl rfl rfl rfl ?_
  refine RL.idxAAt (j := 2) Try.runUnderlying322 Try.sizeOf5 rfl rfl rfl rfl rfl rfl (by decide) ?_
  refine RL.load Try.isAgg5 rfl rfl rfl rfl (by first | assumption | (apply Rd.get; (solve | (repeat (first | exact List.Mem.head _ | apply List.Mem.tail))); assumption) | (apply Rd.getS; (solve | (repeat (first | exact List.Mem.head _ | apply List.Mem.tail))); assumption) | (apply Rd.getO; (solve | (repeat (first | exact List.Mem.head _ | apply List.Mem.tail))); assumption) | (apply Rd.getI; (solve | (repeat (first | exact List.Mem.head _ | apply List.Mem.tail))); assumption) | (apply Rd.cel; (solve | (repeat (first | exact List.Mem.head _ | apply List.Mem.tail))); exact rfl) | (apply Rd.celI; (solve | (repeat (first | exact List.Mem.head _ | apply List.Mem.tail))); exact rfl)) ?_
  refine RL.widen Try.runUnderlying5 Try.runUnderlying25 rfl rfl rfl rfl ?_
  refine RL.shl32 8 rfl rfl rfl rfl rfl rfl (by decide) ?_
  refine RL.bv32 (a := _) (b := _) or32 rfl rfl rfl rfl rfl ?_
  refine RL.idxAAt (j := 3) Try.runUnderlying322 Try.sizeOf5 rfl rfl rfl rfl rfl rfl (by decide) ?_
  refine RL.load Try.isAgg5 rfl rfl rfl rfl (by first | assumption | (apply Rd.get; (solve | (repeat (first | exact List.Mem.head _ | apply List.Mem.tail))); assumption) | (apply Rd.getS; (solve | (repeat (first | exact List.Mem.head _ | apply List.Mem.tail))); assumption) | (apply Rd.getO; (solve | (repeat (first | exact List.Mem.head _ | apply List.Mem.tail))); assumption) | (apply Rd.getI; (solve | (repeat (first | exact List.Mem.head _ | apply List.Mem.tail))); assumption) | (apply Rd.cel; (solve | (repeat (first | exact List.Mem.head _ | apply List.Mem.tail))); exact rfl) | (apply Rd.celI; (solve | (repeat (first | exact List.Mem.head _ | apply List.Mem.tail))); exact rfl)) ?_
  refine RL.widen Try.runUnderlying5 Try.runUnderlying25 rfl rfl rfl rfl ?_
  refine RL.bv32 (a := _) (b := _) or32 rfl rfl rfl rfl rfl ?_
  refine RL.conv Try.runUnderlying25 Try.runUnderlying22 rfl rfl rfl rfl ?_
  refine RL.assign rfl rfl rfl rfl ?_
  refine RL.assign rfl rfl rfl rfl ?_
  refine RL.nil ?_
  refine NQ.seq ?_
  refine CW.only (.cons (k := 2) rfl (.cons (k := 3) rfl .nil)) ?_
  refine CW.ret ?_
  -- STOP: ret; end
  rw [word4]
  exact RQ.post (res2 rfl rfl rfl) (Split.none _) ⟨rfl, rfl, rfl⟩

theorem sgetfix_any (p : Option Addr) (n c : Nat) (l : List B8) (hn : l.length = n) (h8 : 8 ≤ n) (hc : n ≤ c) : Spc Try.prog 176 #[.slice p n c] [sls p 1 n (bytes l)] [] (Is (.tuple #[.int .i64 (IntKind.i64.wrap (numB (l.take 8))), .int .i64 0])) := by
  refine Spc.enter Try.func176 rfl rfl rfl (fun w0 hw0 => ?_)
  refine CW.seq ?_
  refine CW.region (ef := []) (bk := []) ?_
  refine RL.assign rfl rfl rfl rfl ?_
  refine RL.assign rfl rfl rfl rfl ?_
  refine RL.nil ?_
  refine NQ.seq ?_
  refine CW.seq ?_
  refine CW.seq ?_
  refine CW.region (ef := []) (bk := []) ?_
  refine RL.move rfl rfl rfl rfl ?_
  refine RL.lenS Try.runUnderlying34 rfl rfl rfl rfl ?_
  refine RL.bin rfl rfl rfl rfl rfl rfl ?_
  refine RL.nil ?_
  refine NQ.seq ?_
  -- STOP: if; todo top: ["code", ["cond", ["t", 10], ["seq", ["region", 2, [{"d": 2, "op": ["assign", ["c", ["int", "Go.IntKind.i64", 0]]], "ty": 24, "pos": "small.go:65", "after": [], "guard": null}, {"d": 3, "op": ["assign
  refine CW.condF rfl ((by simp; omega)) ?_
  refine CW.skip ?_
  refine NQ.seq ?_
  refine CW.seq ?_
  refine CW.region (ef := []) (bk := []) ?_
  refine RL.move rfl rfl rfl rfl ?_
  refine RL.callv (sget_any p n c l hn (by omega) hc) Try.call177 rfl rfl rfl rfl (by repeat (first | exact Lend.nil | (refine Lend.inI ?_ ?_; (solve | (repeat (first | exact List.Mem.head _ | apply List.Mem.tail)))) | (refine Lend.inH ?_ ?_; (solve | (repeat (first | exact List.Mem.head _ | apply List.Mem.tail)))))) ?_
  refine RL.move rfl rfl rfl rfl ?_
  refine RL.extract rfl rfl rfl rfl rfl ?_
  refine RL.extract rfl rfl rfl rfl rfl ?_
  refine RL.assign rfl rfl rfl rfl ?_
  refine RL.assign rfl rfl rfl rfl ?_
  refine RL.nil ?_
  refine NQ.seq ?_
  refine CW.only (.cons (k := 0) rfl (.cons (k := 4) rfl .nil)) ?_
  refine CW.seq ?_
  refine CW.region (ef := []) (bk := []) ?_
  refine RL.move rfl rfl rfl rfl ?_
  -- STOP: op; op 1: d=18 ["slice", 34, ["t", 17], ["c", ["int", "Go.IntKind.i64", 4]], null, null] guard=None (small.go:68)
  refine RL.slice (lo := 4) (hi := n) Try.runUnderlying34 Try.sizeOf5 rfl rfl rfl rfl rfl rfl (by omega) (by omega) ?_
  refine RL.callv (sget_any (if c = 4 then p else p.map (·.add (4 * 1))) (n - 4) (c - 4) (l.drop 4) (by rw [List.length_drop]; omega) (by omega) (by omega)) Try.call177 rfl rfl rfl rfl (by have h := Lend.sub (I := [sls p 1 l.length (bytes l)]) (F := []) (Lies.dropB (p := p) (c := c) (lo := 4) (m := l) (by omega) (by omega)) (List.Mem.head _) .nil; rwa [List.length_drop, hn] at h) ?_
  refine RL.move rfl rfl rfl rfl ?_
  refine RL.extract rfl rfl rfl rfl rfl ?_
  refine RL.extract rfl rfl rfl rfl rfl ?_
  refine RL.assign rfl rfl rfl rfl ?_
  refine RL.assign rfl rfl rfl rfl ?_
  refine RL.nil ?_
  refine NQ.seq ?_
  refine CW.only (.cons (k := 4) rfl (.cons (k := 6) rfl .nil)) ?_
  refine CW.seq ?_
  refine CW.region (ef := []) (bk := []) ?_
  refine RL.move rfl rfl rfl rfl ?_
  refine RL.conv Try.runUnderlying22 Try.runUnderlying24 rfl rfl rfl rfl ?_
  refine RL.shl 32 rfl rfl rfl rfl rfl rfl (by decide) ?_
  refine RL.move rfl rfl rfl rfl ?_
  refine RL.conv Try.runUnderlying22 Try.runUnderlying25 rfl rfl rfl rfl ?_
  refine RL.conv Try.runUnderlying25 Try.runUnderlying24 rfl rfl rfl rfl ?_
  refine RL.bin rfl rfl rfl rfl rfl rfl ?_
  refine RL.assign rfl rfl rfl rfl ?_
  refine RL.assign rfl rfl rfl rfl ?_
  refine RL.nil ?_
  refine NQ.seq ?_
  refine CW.only (.cons (k := 2) rfl (.cons (k := 3) rfl .nil)) ?_
  refine CW.ret ?_
  -- STOP: ret; end
  obtain ⟨e, hA, hB⟩ := num8 (l := l) (by omega)
  rw [fix_or _ _ hA hB, ← e]
  exact RQ.post (res2 rfl rfl rfl) (Split.none _) ⟨rfl, rfl, rfl⟩

theorem rshort_any (d : Nat) (p : Option Addr) (c : Nat) (l : List B8) (h4 : 4 ≤ l.length) (hc : l.length ≤ c) : Spc Try.prog 139 #[.pointer (some ⟨d, 0, none⟩)] [sls p 1 l.length (bytes l)] [rdr d p l.length c]
    (RdR d p l 4 (.int .i32 (IntKind.i32.wrap (numB (l.take 4))))) := by
  refine Spc.enter Try.func139 rfl rfl rfl (fun w0 hw0 => ?_)
  refine CW.seq ?_
  refine CW.region (ef := []) (bk := []) ?_
  refine RL.assign rfl rfl rfl rfl ?_
  refine RL.nil ?_
  refine NQ.seq ?_
  refine CW.seq ?_
  refine CW.region (ef := [1]) (bk := [1]) ?_
  refine RL.move rfl rfl rfl rfl ?_
  refine RL.call (take_any d p 4 l.length c h4 hc) Try.call141 rfl rfl rfl rfl rfl (by repeat (first | exact Pick.nil | apply Pick.take | apply Pick.leave)) (by repeat (first | exact Lend.nil | (refine Lend.inI ?_ ?_; (solve | (repeat (first | exact List.Mem.head _ | apply List.Mem.tail)))) | (refine Lend.inH ?_ ?_; (solve | (repeat (first | exact List.Mem.head _ | apply List.Mem.tail)))))) (.inr rfl) ?_
  -- STOP: called; op 2: d=8 ["call", ["f", 177], [["t", 7]], [34]] guard=None (kind.go:156)
  rintro _ _ _ ⟨rfl, rfl, rfl⟩
  refine RL.callv (sget_any (if c = 0 then p else p.map (·.add (0 * 1))) 4 c (l.take 4) (by rw [List.length_take]; omega) (by decide) (by omega)) Try.call177 rfl rfl rfl rfl (by have h := Lend.sub (I := [sls p 1 l.length (bytes l)]) (F := [rdr d (if c = 4 then p else p.map (·.add (4 * 1))) (l.length - 4) (c - 4)]) (Lies.takeB (p := p) (c := c) (k := 4) (m := l) (by omega) (by omega)) (List.Mem.head _) .nil; rwa [show (l.take 4).length = 4 by rw [List.length_take]; omega] at h) ?_
  refine RL.move rfl rfl rfl rfl ?_
  refine RL.extract rfl rfl rfl rfl rfl ?_
  refine RL.extract rfl rfl rfl rfl rfl ?_
  refine RL.assign rfl rfl rfl rfl ?_
  refine RL.assign rfl rfl rfl rfl ?_
  refine RL.nil ?_
  refine NQ.seq ?_
  refine CW.only (.cons (k := 3) rfl .nil) ?_
  refine CW.seq ?_
  refine CW.region (ef := []) (bk := []) ?_
  refine RL.move rfl rfl rfl rfl ?_
  refine RL.assign rfl rfl rfl rfl ?_
  refine RL.nil ?_
  refine NQ.seq ?_
  refine CW.ret ?_
  -- STOP: ret; end
  rw [List.take_take]
  exact RQ.post (res1 rfl rfl) (.keep .nil) ⟨rfl, rfl, _, _, by rw [List.length_drop], by rw [List.length_drop]; omega, Lies.dropB h4 hc⟩

theorem rfix_any (d : Nat) (p : Option Addr) (c : Nat) (l : List B8) (h8 : 8 ≤ l.length) (hc : l.length ≤ c) : Spc Try.prog 137 #[.pointer (some ⟨d, 0, none⟩)] [sls p 1 l.length (bytes l)] [rdr d p l.length c]
    (RdR d p l 8 (.int .i64 (IntKind.i64.wrap (numB (l.take 8))))) := by
  refine Spc.enter Try.func137 rfl rfl rfl (fun w0 hw0 => ?_)
  refine CW.seq ?_
  refine CW.region (ef := []) (bk := []) ?_
  refine RL.assign rfl rfl rfl rfl ?_
  refine RL.nil ?_
  refine NQ.seq ?_
  refine CW.seq ?_
  refine CW.region (ef := [1]) (bk := [1]) ?_
  refine RL.move rfl rfl rfl rfl ?_
  refine RL.call (take_any d p 8 l.length c h8 hc) Try.call141 rfl rfl rfl rfl rfl (by repeat (first | exact Pick.nil | apply Pick.take | apply Pick.leave)) (by repeat (first | exact Lend.nil | (refine Lend.inI ?_ ?_; (solve | (repeat (first | exact List.Mem.head _ | apply List.Mem.tail)))) | (refine Lend.inH ?_ ?_; (solve | (repeat (first | exact List.Mem.head _ | apply List.Mem.tail)))))) (.inr rfl) ?_
  -- STOP: called; op 2: d=8 ["call", ["f", 176], [["t", 7]], [34]] guard=None (kind.go:162)
  rintro _ _ _ ⟨rfl, rfl, rfl⟩
  refine RL.callv (sgetfix_any (if c = 0 then p else p.map (·.add (0 * 1))) 8 c (l.take 8) (by rw [List.length_take]; omega) (by decide) (by omega)) Try.call176 rfl rfl rfl rfl (by have h := Lend.sub (I := [sls p 1 l.length (bytes l)]) (F := [rdr d (if c = 8 then p else p.map (·.add (8 * 1))) (l.length - 8) (c - 8)]) (Lies.takeB (p := p) (c := c) (k := 8) (m := l) (by omega) (by omega)) (List.Mem.head _) .nil; rwa [show (l.take 8).length = 8 by rw [List.length_take]; omega] at h) ?_
  refine RL.move rfl rfl rfl rfl ?_
  refine RL.extract rfl rfl rfl rfl rfl ?_
  refine RL.extract rfl rfl rfl rfl rfl ?_
  refine RL.assign rfl rfl rfl rfl ?_
  refine RL.assign rfl rfl rfl rfl ?_
  refine RL.nil ?_
  refine NQ.seq ?_
  refine CW.only (.cons (k := 3) rfl .nil) ?_
  refine CW.seq ?_
  refine CW.region (ef := []) (bk := []) ?_
  refine RL.move rfl rfl rfl rfl ?_
  refine RL.assign rfl rfl rfl rfl ?_
  refine RL.nil ?_
  refine NQ.seq ?_
  refine CW.ret ?_
  -- STOP: ret; end
  rw [List.take_take]
  exact RQ.post (res1 rfl rfl) (.keep .nil) ⟨rfl, rfl, _, _, by rw [List.length_drop], by rw [List.length_drop]; omega, Lies.dropB h8 hc⟩
end Go.Proofs.Ytflpiaeffnoepaa
