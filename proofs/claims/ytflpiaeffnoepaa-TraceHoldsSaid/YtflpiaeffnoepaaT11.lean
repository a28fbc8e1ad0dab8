import Derived.Test.YtflpiaeffnoepaaT10
namespace Go.Proofs.Ytflpiaeffnoepaa
open Go.PK

theorem add_ok (r lb m : Nat) (es rg : List Ent) (x : Ent) (hm : 0 < m) (hmb : m ≤ 4096) (hl : es.length ≤ 1000000000) (h : RecInv m es rg) (hx : x.ok = true) :
    Spc Try.prog 28 #[.pointer (some ⟨r, 0, none⟩), .agg x.cells.toArray] [] (RecH r lb m es rg)
      (fun v I' H' => v = .int .i64 0 ∧ I' = [] ∧ ∃ rg', RecInv m (es ++ [x]) rg' ∧ H' = RecH r lb m (es ++ [x]) rg') :=
  Spc.weaken (add_any r lb m es rg x hm hmb hl h) (fun v I' H' ⟨h1, h2, h3⟩ => by
    have e : esA es x = es ++ [x] := by simp [esA, hx]
    rw [e] at h3
    exact ⟨by rw [h1, if_pos hx], h2, h3⟩)
theorem new2 : Spc Try.prog 26 #[.int .i64 2] [] [] (fun v I' H' => ∃ r lb, v = .tuple #[.pointer (some ⟨r, 0, none⟩), .int .i64 0] ∧ I' = [] ∧ ∃ rg, RecInv 2 [] rg ∧ H' = RecH r lb 2 [] rg) := tnew_yes 2 (by decide) (by decide)
def exE (i : Nat) : Ent := ⟨(i : Int), 0, 0, 0⟩
def exL (i : Nat) : List Ent := (List.range i).map exE
theorem exL_succ (i : Nat) : exL i ++ [exE i] = exL (i + 1) := by simp [exL, List.range_succ]
theorem exL_len (i : Nat) : (exL i).length = i := by simp [exL]
theorem exE_ok {i : Nat} (h : i < 3) : (exE i).ok = true := by rw [Ent.ok_iff]; simp [exE]; omega
theorem ex_rep : repV 2 (exL 3) 9 = ⟨headOf [exE 0], headOf (exL 3), 1, [exE 1, exE 2]⟩ := rfl
theorem ex_head : headOf (exL 3) = th2_D := th_head
theorem ex_holds : holdsE ⟨headOf [exE 0], headOf (exL 3), 1, [exE 1, exE 2]⟩ = 0 := by
  have h : leadsD (headOf [exE 0]) [exE 1, exE 2] = some (headOf (exL 3)) := leadsD_snoc _ _ (by
    intro x hx
    simp only [List.mem_cons, List.not_mem_nil, or_false] at hx
    rcases hx with rfl | rfl <;> exact exE_ok (by decide))
  rw [holdsE, if_pos ⟨h, by decide⟩]
theorem works36 : Spc Try.prog 35 #[] [] [] (Is (.bool true)) := by
  refine Spc.enter Try.func35 rfl rfl rfl (fun w0 hw0 => ?_)
  refine CW.seq ?_
  refine CW.region (ef := []) (bk := []) ?_
  refine RL.assign rfl rfl rfl rfl ?_
  refine RL.nil ?_
  refine NQ.seq ?_
  refine CW.seq ?_
  refine CW.region (ef := [0]) (bk := []) ?_
  refine RL.call (new2) Try.call26 rfl rfl rfl rfl rfl (by repeat (first | exact Pick.nil | apply Pick.take | apply Pick.leave)) (by repeat (first | exact Lend.nil | (refine Lend.inI ?_ ?_; (solve | (repeat (first | exact List.Mem.head _ | apply List.Mem.tail)))) | (refine Lend.inH ?_ ?_; (solve | (repeat (first | exact List.Mem.head _ | apply List.Mem.tail)))))) (.inl rfl) ?_
  -- STOP: called; op 1: d=6 ["move", ["t", 7]] guard=None (law.go:13)
  rintro _ _ _ ⟨r, lb, rfl, rfl, rg, hi, rfl⟩
  refine RL.move rfl rfl rfl rfl ?_
  refine RL.extract rfl rfl rfl rfl rfl ?_
  refine RL.extract rfl rfl rfl rfl rfl ?_
  refine RL.assign rfl rfl rfl rfl ?_
  refine RL.assign rfl rfl rfl rfl ?_
  refine RL.nil ?_
  refine NQ.seq ?_
  refine CW.seq ?_
  refine CW.seq ?_
  refine CW.region (ef := []) (bk := []) ?_
  refine RL.move rfl rfl rfl rfl ?_
  refine RL.cmp rfl rfl rfl rfl rfl (eql_ptr Try.runUnderlying50 _) ?_
  refine RL.nil ?_
  refine NQ.seq ?_
  -- STOP: if; todo top: ["code", ["cond", ["t", 11], ["seq", ["region", 3, [{"d": 0, "op": ["assign", ["c", ["bool", false]]], "ty": 4, "pos": "law.go:15", "after": [], "guard": null}], false], ["ret"]], ["skip"]]]
  refine CW.condF rfl (rfl) ?_
  refine CW.skip ?_
  refine NQ.seq ?_
  refine CW.only (.cons (k := 1) rfl (.cons (k := 2) rfl .nil)) ?_
  refine CW.seq ?_
  refine CW.seq ?_
  refine CW.region (ef := []) (bk := []) ?_
  refine RL.assign rfl rfl rfl rfl ?_
  refine RL.nil ?_
  refine NQ.seq ?_
  refine CW.block ?_
  -- STOP: loop; todo top: ["code", ["loop", ["seq", ["seq", ["region", 5, [{"d": 12, "op": ["move", ["t", 3]], "ty": 3, "pos": "law.go:17", "after": [], "guard": null}, {"d": 13, "op": ["binOp", "Go.BinOp.lss", 3, ["t", 12], [
  refine CW.loop (γ := Nat × List Ent) (fun g => g.1 ≤ 3 ∧ RecInv 2 (exL g.1) g.2) (fun g => [(1, .pointer (some ⟨r, 0, none⟩)), (2, .int .i64 0), (3, .int .i64 (g.1 : Int))]) (fun _ => [])
    (fun g => RecH r lb 2 (exL g.1) g.2) (fun g => 3 - g.1) (0, rg) ⟨by simp, hi⟩ (.cons rfl (.cons rfl (.cons rfl .nil))) (fun w h => h) ?_
  rintro ⟨i, rg'⟩ ⟨hi3, hinv⟩
  dsimp only at hi3 hinv ⊢
  refine CW.seq ?_
  refine CW.seq ?_
  refine CW.region (ef := []) (bk := []) ?_
  refine RL.move rfl rfl rfl rfl ?_
  refine RL.bin rfl rfl rfl rfl rfl rfl ?_
  refine RL.nil ?_
  refine NQ.seq ?_
  -- STOP: if; todo top: ["code", ["cond", ["t", 13], ["skip"], ["exit", 0]]]
  refine CW.cond rfl (fun hlt => ?_) (fun hlt => ?_)
  ·
    have hlt : i < 3 := by simp at hlt; omega
    refine CW.skip ?_
    refine NQ.seq ?_
    refine CW.seq ?_
    refine CW.block ?_
    refine CW.seq ?_
    refine CW.region (ef := [3]) (bk := [3]) ?_
    refine RL.move rfl rfl rfl rfl ?_
    refine RL.move rfl rfl rfl rfl ?_
    refine RL.buildS [_, _, _, _] Try.zeroValue57 pl_57 rfl rfl rfl rfl rfl ?_
    refine RL.call (add_ok r lb 2 (exL i) rg' (exE i) (by decide) (by decide) (by rw [exL_len]; omega) hinv (exE_ok hlt)) Try.call28 rfl rfl rfl rfl rfl (by repeat (first | exact Pick.nil | apply Pick.take | apply Pick.leave)) (by repeat (first | exact Lend.nil | (refine Lend.inI ?_ ?_; (solve | (repeat (first | exact List.Mem.head _ | apply List.Mem.tail)))) | (refine Lend.inH ?_ ?_; (solve | (repeat (first | exact List.Mem.head _ | apply List.Mem.tail)))))) (.inr rfl) ?_
    -- STOP: called; op 4: d=20 ["binOp", "Go.BinOp.neq", 35, ["t", 19], ["c", ["int", "Go.IntKind.i64", 0]], 35] guard=None (law.go:18)
    rintro _ _ _ ⟨rfl, rfl, rg2, hinv2, rfl⟩
    rw [exL_succ] at hinv2 ⊢
    refine RL.bin rfl rfl rfl rfl rfl rfl ?_
    refine RL.nil ?_
    refine NQ.seq ?_
    refine CW.only (.cons (k := 1) rfl (.cons (k := 2) rfl (.cons (k := 3) rfl (.cons (k := 20) rfl .nil)))) ?_
    -- STOP: if; todo top: ["code", ["cond", ["t", 20], ["seq", ["region", 8, [{"d": 0, "op": ["assign", ["c", ["bool", false]]], "ty": 4, "pos": "law.go:19", "after": [], "guard": null}], false], ["ret"]], ["skip"]]]
    refine CW.condF rfl (rfl) ?_
    refine CW.skip ?_
    refine NQ.block ?_
    refine NQ.seq ?_
    refine CW.region (ef := []) (bk := []) ?_
    refine RL.move rfl rfl rfl rfl ?_
    refine RL.binX rfl rfl rfl rfl rfl rfl (wrapV_i64 (by omega) (by omega)) ?_
    refine RL.assign rfl rfl rfl rfl ?_
    refine RL.nil ?_
    -- STOP: round; todo top: ["N"]
    refine NQ.round (g := (i, rg')) (i + 1, rg2) ⟨hlt, hinv2⟩ (by show 3 - (i + 1) < 3 - i; omega) (.cons rfl (.cons rfl (.cons rfl .nil))) (fun w h => h)
  ·
    have hi : i = 3 := by simp at hlt; omega
    subst hi
    refine CW.exit ?_
    refine XQ.seq ?_
    refine XQ.seq ?_
    refine XQ.hit ?_
    refine NQ.seq ?_
    refine CW.seq ?_
    refine CW.region (ef := [1, 5, 6]) (bk := [6]) ?_
    refine RL.move rfl rfl rfl rfl ?_
    refine RL.call (report_any r lb 2 (exL 3) rg' 9 (by decide) (by decide) (by decide) hinv) Try.call32 rfl rfl rfl rfl rfl (by repeat (first | exact Pick.nil | apply Pick.take | apply Pick.leave)) (by repeat (first | exact Lend.nil | (refine Lend.inI ?_ ?_; (solve | (repeat (first | exact List.Mem.head _ | apply List.Mem.tail)))) | (refine Lend.inH ?_ ?_; (solve | (repeat (first | exact List.Mem.head _ | apply List.Mem.tail)))))) (.inl rfl) ?_
    -- STOP: called; op 2: d=21 ["move", ["t", 23]] guard=None (law.go:22)
    rintro _ _ _ ⟨ob, cap, rfl, rfl, rfl⟩
    rw [ex_rep]
    have h1 := headOf_length [exE 0]
    have h2 := headOf_length (exL 3)
    refine RL.move rfl rfl rfl rfl ?_
    refine RL.extract rfl rfl rfl rfl rfl ?_
    refine RL.extract rfl rfl rfl rfl rfl ?_
    refine RL.alloc Try.zeroValue70 rfl rfl rfl rfl rfl ?_
    intro b1
    -- STOP: op; op 6: d=None ["store", 70, ["t", 4], ["t", 24]] guard=None (law.go:22)
    refine RL.storeW Try.sizeOf70 rfl rfl rfl rfl rfl rfl rfl (ones_rep _ rfl) (by repeat (first | exact Upd.here | apply Upd.there)) (rep_len h1 h2) rfl ?_
    refine RL.assign rfl rfl rfl rfl ?_
    refine RL.nil ?_
    refine NQ.seq ?_
    refine CW.only (.cons (k := 1) rfl (.cons (k := 2) rfl (.cons (k := 4) rfl (.cons (k := 5) rfl .nil)))) ?_
    refine CW.seq ?_
    refine CW.region (ef := [19, 24]) (bk := []) ?_
    refine RL.move rfl rfl rfl rfl ?_
    refine RL.bin rfl rfl rfl rfl rfl rfl ?_
    refine RL.move rfl rfl rfl rfl ?_
    -- STOP: part 28; op 3: d=29 ["move", ["t", 5]] guard=[2, True] (law.go:23)
    refine RL.cast (d := 28) (v' := .bool true) rfl (rfl) ?_
    refine RL.move rfl rfl rfl rfl ?_
    refine RL.bin rfl rfl rfl rfl rfl rfl ?_
    refine RL.pickT rfl rfl rfl rfl rfl ?_
    refine RL.move rfl rfl rfl rfl ?_
    -- STOP: part 32; op 7: d=33 ["fieldAddr", 70, ["t", 4], 3] guard=[6, True] (law.go:23)
    refine RL.cast (d := 32) (v' := .bool true) rfl (rfl) ?_
    refine RL.fieldAddr fa_70_3 rfl rfl rfl rfl ?_
    -- STOP: op; op 8: d=34 ["load", 49, ["t", 33]] guard=[6, True] (law.go:23)
    refine RL.load Try.isAgg49 rfl rfl rfl rfl (Rd.get (by repeat (first | exact List.Mem.head _ | apply List.Mem.tail)) (rep_sl h1 h2)) ?_
    refine RL.lenS Try.runUnderlying49 rfl rfl rfl rfl ?_
    refine RL.bin rfl rfl rfl rfl rfl rfl ?_
    refine RL.pickT rfl rfl rfl rfl rfl ?_
    refine RL.move rfl rfl rfl rfl ?_
    -- STOP: part 38; op 13: d=39 ["fieldAddr", 70, ["t", 4], 2] guard=[12, True] (law.go:23)
    refine RL.cast (d := 38) (v' := .bool true) rfl (rfl) ?_
    refine RL.fieldAddr fa_70_2 rfl rfl rfl rfl ?_
    -- STOP: op; op 14: d=40 ["load", 3, ["t", 39]] guard=[12, True] (law.go:23)
    refine RL.load Try.isAgg3 rfl rfl rfl rfl (Rd.get (by repeat (first | exact List.Mem.head _ | apply List.Mem.tail)) (rep_a h1 h2)) ?_
    refine RL.bin rfl rfl rfl rfl rfl rfl ?_
    refine RL.pickT rfl rfl rfl rfl rfl ?_
    refine RL.move rfl rfl rfl rfl ?_
    -- STOP: part 43; op 18: d=44 ["load", 70, ["t", 4]] guard=[17, True] (law.go:23)
    refine RL.cast (d := 43) (v' := .bool true) rfl (rfl) ?_
    -- STOP: op; op 18: d=44 ["load", 70, ["t", 4]] guard=[17, True] (law.go:23)
    refine RL.loadA Try.isAgg70 Try.sizeOf70 rfl rfl rfl rfl (Rds.all (by repeat (first | exact List.Mem.head _ | apply List.Mem.tail))) (rep_len h1 h2) ?_
    refine RL.callv (tholds_any ⟨headOf [exE 0], headOf (exL 3), 1, [exE 1, exE 2]⟩ ob cap 2 h1 h2 rfl (by decide)) Try.call37 rfl rfl rfl rfl (Lend.own (by repeat (first | exact List.Mem.head _ | apply List.Mem.tail)) .nil) ?_
    refine RL.bin rfl rfl rfl rfl rfl rfl ?_
    refine RL.pickT rfl rfl rfl rfl rfl ?_
    refine RL.move rfl rfl rfl rfl ?_
    -- STOP: part 48; op 23: d=49 ["move", ["t", 1]] guard=[22, True] (law.go:23)
    refine RL.cast (d := 48) (v' := .bool true) rfl ((by rw [ex_holds]; rfl)) ?_
    refine RL.move rfl rfl rfl rfl ?_
    refine RL.callv (head_any r lb 2 _ _ _ _ _ (by decide) (headOf_length _) (headOf_length _)) Try.call30 rfl rfl rfl rfl (by repeat (first | exact Lend.nil | (refine Lend.inI ?_ ?_; (solve | (repeat (first | exact List.Mem.head _ | apply List.Mem.tail)))) | (refine Lend.inH ?_ ?_; (solve | (repeat (first | exact List.Mem.head _ | apply List.Mem.tail)))))) ?_
    refine RL.buildA (List.replicate 32 (U8 0#8)) Try.zeroValue61 Try.runUnderlying61 Try.sizeOf5 rfl rfl rfl rfl rfl ?_
    -- STOP: op; op 26: d=52 ["binOp", "Go.BinOp.neq", 61, ["t", 50], ["t", 51], 61] guard=[22, True] (law.go:23)
    refine RL.cmp rfl rfl rfl rfl rfl (dig_ne (headOf (exL 3)) zeros h2 rfl _ _) ?_
    refine RL.pickT rfl rfl rfl rfl rfl ?_
    refine RL.assign rfl rfl rfl rfl ?_
    refine RL.nil ?_
    refine NQ.seq ?_
    refine CW.only (.cons (k := 0) rfl .nil) ?_
    refine CW.ret ?_
    -- STOP: ret; end
    exact RQ.post (res1 rfl rfl) (Split.none _) ⟨by rw [ex_head, th_ne]; rfl, rfl, rfl⟩
end Go.Proofs.Ytflpiaeffnoepaa
