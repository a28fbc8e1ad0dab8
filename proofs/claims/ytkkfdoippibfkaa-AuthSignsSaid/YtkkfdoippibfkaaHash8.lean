import Derived.Test.YtkkfdoippibfkaaHash7
namespace Go.Proofs.Ytkkfdoippibfkaa
open Go.PK

theorem write_none (b : Nat) (s : S8) (p q : Option Addr) (k cap c2 n : Nat) (rest : List B8) (h64 : k < 64) (hk : k ≤ cap) (hb : n ≤ 1000000000) :
    Spc Try.prog 169 #[.pointer (some ⟨b, 0, none⟩), .slice q 0 c2] [sls p 1 k (bytes rest)] [hcel b s p k cap n]
      (fun v I' H' => v = .int .i64 0 ∧ I' = [] ∧ H' = [hcel b s p k k n]) := by
  refine Spc.enter Try.func169 rfl rfl rfl (fun w0 hw0 => ?_)
  refine CW.seq ?_
  refine CW.region (ef := []) (bk := []) ?_
  refine RL.assign rfl rfl rfl rfl ?_
  refine RL.nil ?_
  refine NQ.seq ?_
  refine CW.seq ?_
  refine CW.block ?_
  refine CW.seq ?_
  refine CW.region (ef := []) (bk := []) ?_
  refine RL.move rfl rfl rfl rfl ?_
  refine RL.callv (is_yes b s p k cap n) Try.call213 rfl rfl rfl rfl (by repeat (first | exact Lend.nil | (refine Lend.inI ?_ ?_; (solve | (repeat (first | exact List.Mem.head _ | apply List.Mem.tail)))) | (refine Lend.inH ?_ ?_; (solve | (repeat (first | exact List.Mem.head _ | apply List.Mem.tail)))))) ?_
  refine RL.not rfl rfl rfl rfl ?_
  refine RL.assign rfl rfl rfl rfl ?_
  refine RL.nil ?_
  refine NQ.seq ?_
  -- STOP: if; todo top: ["code", ["cond", ["t", 5], ["seq", ["region", 2, [{"d": 4, "op": ["assign", ["c", ["int", "Go.IntKind.i64", 1]]], "ty": 32, "pos": "hash.go:96", "after": [], "guard": null}], false], ["ret"]], ["seq"
  refine CW.condF rfl (rfl) ?_
  refine CW.seq ?_
  refine CW.region (ef := []) (bk := []) ?_
  refine RL.move rfl rfl rfl rfl ?_
  refine RL.lenS Try.runUnderlying95 rfl rfl rfl rfl ?_
  refine RL.move rfl rfl rfl rfl ?_
  refine RL.nilCheck rfl rfl rfl rfl ?_
  refine RL.fieldAddr fa_363_2 rfl rfl rfl rfl ?_
  refine RL.load Try.isAgg3 rfl rfl rfl rfl (by first | assumption | (apply RdI.rd; assumption) | (apply Rd.get; (solve | (repeat (first | exact List.Mem.head _ | apply List.Mem.tail))); assumption) | (apply Rd.getS; (solve | (repeat (first | exact List.Mem.head _ | apply List.Mem.tail))); assumption) | (apply Rd.getO; (solve | (repeat (first | exact List.Mem.head _ | apply List.Mem.tail))); assumption) | (apply Rd.getI; (solve | (repeat (first | exact List.Mem.head _ | apply List.Mem.tail))); assumption) | (apply Rd.cel; (solve | (repeat (first | exact List.Mem.head _ | apply List.Mem.tail))); exact rfl) | (apply Rd.celI; (solve | (repeat (first | exact List.Mem.head _ | apply List.Mem.tail))); exact rfl)) ?_
  refine RL.binX rfl rfl rfl rfl rfl rfl (wrapV_i64 (by omega) (by omega)) ?_
  refine RL.bin rfl rfl rfl rfl rfl rfl ?_
  refine RL.assign rfl rfl rfl rfl ?_
  refine RL.nil ?_
  refine NQ.seq ?_
  refine CW.only (.cons (k := 0) rfl (.cons (k := 1) rfl (.cons (k := 4) rfl (.cons (k := 9) rfl .nil)))) ?_
  -- STOP: if; todo top: ["code", ["cond", ["t", 9], ["seq", ["region", 4, [{"d": 4, "op": ["assign", ["c", ["int", "Go.IntKind.i64", 3]]], "ty": 32, "pos": "hash.go:98", "after": [], "guard": null}], false], ["ret"]], ["skip
  refine CW.condF rfl ((by simp; omega)) ?_
  refine CW.skip ?_
  refine NQ.block ?_
  refine NQ.seq ?_
  refine CW.seq ?_
  refine CW.region (ef := [9]) (bk := [9]) ?_
  refine RL.move rfl rfl rfl rfl ?_
  refine RL.nilCheck rfl rfl rfl rfl ?_
  refine RL.fieldAddr fa_363_2 rfl rfl rfl rfl ?_
  refine RL.load Try.isAgg3 rfl rfl rfl rfl (by first | assumption | (apply RdI.rd; assumption) | (apply Rd.get; (solve | (repeat (first | exact List.Mem.head _ | apply List.Mem.tail))); assumption) | (apply Rd.getS; (solve | (repeat (first | exact List.Mem.head _ | apply List.Mem.tail))); assumption) | (apply Rd.getO; (solve | (repeat (first | exact List.Mem.head _ | apply List.Mem.tail))); assumption) | (apply Rd.getI; (solve | (repeat (first | exact List.Mem.head _ | apply List.Mem.tail))); assumption) | (apply Rd.cel; (solve | (repeat (first | exact List.Mem.head _ | apply List.Mem.tail))); exact rfl) | (apply Rd.celI; (solve | (repeat (first | exact List.Mem.head _ | apply List.Mem.tail))); exact rfl)) ?_
  refine RL.move rfl rfl rfl rfl ?_
  refine RL.lenS Try.runUnderlying95 rfl rfl rfl rfl ?_
  refine RL.binX rfl rfl rfl rfl rfl rfl (wrapV_i64 (by omega) (by omega)) ?_
  refine RL.nilCheck rfl rfl rfl rfl ?_
  refine RL.fieldAddr fa_363_2 rfl rfl rfl rfl ?_
  refine RL.store (vs := [_]) Try.sizeOf3 rfl rfl rfl rfl rfl rfl rfl rfl rfl (by repeat (first | exact Upd.here | apply Upd.there)) ?_
  refine RL.nil ?_
  refine NQ.seq ?_
  refine CW.only (.cons (k := 0) rfl (.cons (k := 1) rfl .nil)) ?_
  refine CW.seq ?_
  refine CW.regionD (Sq.of [0, 1, 2, 3, 4, 5, 6, 7, 8, 9, 10, 11, 12, 13, 14, 15, 16, 17, 18, 19, 20]) [17, 20] [20] [0, 1, 2, 3, 5, 6, 7, 9, 10, 11, 12, 14, 15, 16, 18, 19] mixed (by kernel_rfl) ?_
  refine RL.move rfl rfl rfl rfl ?_
  refine RL.move rfl rfl rfl rfl ?_
  refine RL.nilCheck rfl rfl rfl rfl ?_
  refine RL.fieldAddr fa_363_1 rfl rfl rfl rfl ?_
  refine RL.load Try.isAgg95 rfl rfl rfl rfl (by first | assumption | (apply RdI.rd; assumption) | (apply Rd.get; (solve | (repeat (first | exact List.Mem.head _ | apply List.Mem.tail))); assumption) | (apply Rd.getS; (solve | (repeat (first | exact List.Mem.head _ | apply List.Mem.tail))); assumption) | (apply Rd.getO; (solve | (repeat (first | exact List.Mem.head _ | apply List.Mem.tail))); assumption) | (apply Rd.getI; (solve | (repeat (first | exact List.Mem.head _ | apply List.Mem.tail))); assumption) | (apply Rd.cel; (solve | (repeat (first | exact List.Mem.head _ | apply List.Mem.tail))); exact rfl) | (apply Rd.celI; (solve | (repeat (first | exact List.Mem.head _ | apply List.Mem.tail))); exact rfl)) ?_
  refine RL.move rfl rfl rfl rfl ?_
  refine RL.nilCheck rfl rfl rfl rfl ?_
  refine RL.fieldAddr fa_363_1 rfl rfl rfl rfl ?_
  refine RL.load Try.isAgg95 rfl rfl rfl rfl (by first | assumption | (apply RdI.rd; assumption) | (apply Rd.get; (solve | (repeat (first | exact List.Mem.head _ | apply List.Mem.tail))); assumption) | (apply Rd.getS; (solve | (repeat (first | exact List.Mem.head _ | apply List.Mem.tail))); assumption) | (apply Rd.getO; (solve | (repeat (first | exact List.Mem.head _ | apply List.Mem.tail))); assumption) | (apply Rd.getI; (solve | (repeat (first | exact List.Mem.head _ | apply List.Mem.tail))); assumption) | (apply Rd.cel; (solve | (repeat (first | exact List.Mem.head _ | apply List.Mem.tail))); exact rfl) | (apply Rd.celI; (solve | (repeat (first | exact List.Mem.head _ | apply List.Mem.tail))); exact rfl)) ?_
  refine RL.lenS Try.runUnderlying95 rfl rfl rfl rfl ?_
  refine RL.move rfl rfl rfl rfl ?_
  refine RL.nilCheck rfl rfl rfl rfl ?_
  refine RL.fieldAddr fa_363_1 rfl rfl rfl rfl ?_
  refine RL.load Try.isAgg95 rfl rfl rfl rfl (by first | assumption | (apply RdI.rd; assumption) | (apply Rd.get; (solve | (repeat (first | exact List.Mem.head _ | apply List.Mem.tail))); assumption) | (apply Rd.getS; (solve | (repeat (first | exact List.Mem.head _ | apply List.Mem.tail))); assumption) | (apply Rd.getO; (solve | (repeat (first | exact List.Mem.head _ | apply List.Mem.tail))); assumption) | (apply Rd.getI; (solve | (repeat (first | exact List.Mem.head _ | apply List.Mem.tail))); assumption) | (apply Rd.cel; (solve | (repeat (first | exact List.Mem.head _ | apply List.Mem.tail))); exact rfl) | (apply Rd.celI; (solve | (repeat (first | exact List.Mem.head _ | apply List.Mem.tail))); exact rfl)) ?_
  refine RL.lenS Try.runUnderlying95 rfl rfl rfl rfl ?_
  -- STOP: op; op 15: d=42 ["slice", 95, ["t", 31], null, ["t", 36], ["t", 41]] guard=None (hash.go:101)
  refine RL.slice3 (hi := k) Try.runUnderlying95 Try.sizeOf5 rfl rfl rfl rfl rfl rfl hk ?_
  refine RL.move rfl rfl rfl rfl ?_
  -- STOP: op; op 17: d=44 ["builtin", "Go.Builtin.append", [["t", 42], ["t", 43]], [95, 95]] guard=None (hash.go:101)
  refine RL.append0 el_95 rfl rfl rfl rfl rfl rfl (Nat.le_refl k) ?_
  refine RL.nilCheck rfl rfl rfl rfl ?_
  refine RL.fieldAddr fa_363_1 rfl rfl rfl rfl ?_
  refine RL.store (vs := [_]) Try.sizeOf95 rfl rfl rfl rfl rfl rfl rfl rfl rfl (by repeat (first | exact Upd.here | apply Upd.there)) ?_
  refine RL.nil ?_
  refine NQ.seq ?_
  refine CW.only (.cons (k := 0) rfl .nil) ?_
  refine CW.seq ?_
  refine CW.block ?_
  -- STOP: loop; todo top: ["code", ["loop", ["seq", ["seq", ["region", 7, [{"d": 47, "op": ["move", ["t", 0]], "ty": 301, "pos": "hash.go:102", "after": [], "guard": null}, {"d": 48, "op": ["nilCheck", ["t", 47]], "ty": 0, "po
  refine CW.loop (γ := Nat) (fun _ => True) (fun _ => [(0, .pointer (some ⟨b, 0, none⟩))])
    (fun _ => [sls p 1 k (bytes rest)]) (fun _ => [hcel b s p k k n]) (fun n => n) 0 trivial (.cons rfl .nil) (fun _ h => by simpa [spl] using h) ?_
  intro _ _
  refine CW.seq ?_
  refine CW.seq ?_
  refine CW.region (ef := []) (bk := []) ?_
  refine RL.move rfl rfl rfl rfl ?_
  refine RL.nilCheck rfl rfl rfl rfl ?_
  refine RL.fieldAddr fa_363_1 rfl rfl rfl rfl ?_
  refine RL.load Try.isAgg95 rfl rfl rfl rfl (by first | assumption | (apply RdI.rd; assumption) | (apply Rd.get; (solve | (repeat (first | exact List.Mem.head _ | apply List.Mem.tail))); assumption) | (apply Rd.getS; (solve | (repeat (first | exact List.Mem.head _ | apply List.Mem.tail))); assumption) | (apply Rd.getO; (solve | (repeat (first | exact List.Mem.head _ | apply List.Mem.tail))); assumption) | (apply Rd.getI; (solve | (repeat (first | exact List.Mem.head _ | apply List.Mem.tail))); assumption) | (apply Rd.cel; (solve | (repeat (first | exact List.Mem.head _ | apply List.Mem.tail))); exact rfl) | (apply Rd.celI; (solve | (repeat (first | exact List.Mem.head _ | apply List.Mem.tail))); exact rfl)) ?_
  refine RL.lenS Try.runUnderlying95 rfl rfl rfl rfl ?_
  refine RL.bin rfl rfl rfl rfl rfl rfl ?_
  refine RL.nil ?_
  refine NQ.seq ?_
  -- STOP: if; todo top: ["code", ["cond", ["t", 52], ["skip"], ["exit", 1]]]
  refine CW.condF rfl ((by simp; omega)) ?_
  refine CW.exit ?_
  refine XQ.seq ?_
  refine XQ.seq ?_
  refine XQ.hit ?_
  refine NQ.seq ?_
  refine CW.only .nil ?_
  refine CW.seq ?_
  refine CW.region (ef := []) (bk := []) ?_
  refine RL.assign rfl rfl rfl rfl ?_
  refine RL.nil ?_
  refine NQ.seq ?_
  refine CW.ret ?_
  -- STOP: ret; end
  exact RQ.post (res1 rfl rfl) (.keep .nil) ⟨rfl, rfl, rfl⟩

section
variable {L : List Oper} {ef bk : List Nat} {tq : Tq} {Q : Exit → Act → World → Prop} {N : Nat} {E : Env} {w0 : World} {S : List Nat} {I H : List It} {i : Nat} {l : Sq}
variable {d : Nat} {ty : TypeId} {pos : String} {af : Array Edge} {g : Option (Nat × Bool)}

/-- A call of Write: state and rest behind it are told. -/
theorem RL.write {b : Nat} {s : S8} {p q : Option Addr} {cap c2 n : Nat} {rest m : List B8} {B : List It} {xs : Array Operand} {ats : Array TypeId} (h64 : rest.length < 64) (hk : rest.length ≤ cap) (hn : rest.length ≤ n) (hb : n + m.length ≤ 1000000000)
    (ho : nth L i = some ⟨some d, .call ⟨.value (.func 169), xs, ats⟩, ty, pos, af, g⟩) (hw : wants L E ⟨some d, .call ⟨.value (.func 169), xs, ats⟩, ty, pos, af, g⟩ = true)
    (hN : Nat.blt d N = true) (hi : ef.contains i = true) (hbk : bk.contains i = true) (hx : evs E xs.toList = some [.pointer (some ⟨b, 0, none⟩), .slice q m.length c2]) (hI : sls p 1 rest.length (bytes rest) ∈ I)
    (hp : Pick H [hcel b s p rest.length cap n] B) (hl : Lend I B [sls q 1 m.length (bytes m)])
    (h : ∀ p' cap', (absorb s (rest ++ m)).2.length ≤ cap' → RL Try.prog L ef bk tq Q l N ((d, .int .i64 0) :: E) w0 S (sls p' 1 (absorb s (rest ++ m)).2.length (bytes (absorb s (rest ++ m)).2) :: I) (hcel b (absorb s (rest ++ m)).1 p' (absorb s (rest ++ m)).2.length cap' (n + m.length) :: B)) :
    RL Try.prog L ef bk tq Q (.cons i l) N E w0 S I H := by
  by_cases h0 : m = []
  · subst h0
    refine RL.call (write_none b s p q rest.length cap c2 n rest h64 hk (by simpa using hb)) Try.call169 ho hw hN hi hx hp (.inI hI .nil) (.inr hbk) ?_
    rintro _ _ _ ⟨rfl, rfl, rfl⟩
    have := h p rest.length
    rw [List.append_nil, absorb_lt h64] at this
    exact RL.also (sls p 1 rest.length (bytes rest)) (fun w hw => hw.i _ hI) (fun c hc => mem_bss.2 ⟨_, hI, hc⟩) (this (Nat.le_refl _))
  · refine RL.call (write_any b s p q cap c2 n rest m h0 hk hn hb) Try.call169 ho hw hN hi hx hp (.inI hI hl) (.inr hbk) ?_
    rintro _ _ _ ⟨p', cap', rfl, rfl, rfl, hc⟩
    exact h p' cap' hc
end
end Go.Proofs.Ytkkfdoippibfkaa
