import Derived.Test.YtflpiaeffnoepaaGetR
import Derived.Test.YtflpiaeffnoepaaSize
namespace Go.Proofs.Ytflpiaeffnoepaa
open Go.PK

theorem clone_any (p : Option Addr) (n c : Nat) (l : List B8) (hn : l.length = n) (hb : n ≤ 1000000000) : Spc Try.prog 83 #[.slice p n c] [sls p 1 n (bytes l)] [] (OwnB l) := by
  subst hn
  refine Spc.fact (p := p = none → l.length = 0) (fun w hw e => sls_nil (hw.i _ (List.Mem.head _)) e) (fun hpp => ?_)
  cases p with
  | none =>
    have h0 := hpp rfl
    refine Spc.enter Try.func83 rfl rfl rfl (fun w0 hw0 => ?_)
    refine CW.seq ?_
    refine CW.region (ef := []) (bk := []) ?_
    refine RL.assign rfl rfl rfl rfl ?_
    refine RL.nil ?_
    refine NQ.seq ?_
    refine CW.seq ?_
    refine CW.seq ?_
    refine CW.region (ef := []) (bk := []) ?_
    refine RL.move rfl rfl rfl rfl ?_
    refine RL.cmp rfl rfl rfl rfl rfl (eql_slice Try.runUnderlying34 _ _ _) ?_
    refine RL.nil ?_
    refine NQ.seq ?_
    -- STOP: if; todo top: ["code", ["cond", ["t", 4], ["seq", ["region", 2, [{"d": 2, "op": ["assign", ["c", ["nilslice"]]], "ty": 34, "pos": "slices.go:358", "after": [], "guard": null}], false], ["ret"]], ["skip"]]]
    refine CW.condT rfl (rfl) ?_
    refine CW.seq ?_
    refine CW.region (ef := []) (bk := []) ?_
    refine RL.assign rfl rfl rfl rfl ?_
    refine RL.nil ?_
    refine NQ.seq ?_
    refine CW.ret ?_
    refine RQ.seq ?_
    -- STOP: ret; end
    refine RQ.ownNone (e := 5) 1 ?_
    rw [List.length_eq_zero_iff.1 h0]
    exact RQ.post (res1 rfl rfl) (.keep .nil) ⟨none, 0, rfl, rfl, rfl, .inl rfl⟩
  | some a =>
    refine Spc.enter Try.func83 rfl rfl rfl (fun w0 hw0 => ?_)
    refine CW.seq ?_
    refine CW.region (ef := []) (bk := []) ?_
    refine RL.assign rfl rfl rfl rfl ?_
    refine RL.nil ?_
    refine NQ.seq ?_
    refine CW.seq ?_
    refine CW.seq ?_
    refine CW.region (ef := []) (bk := []) ?_
    refine RL.move rfl rfl rfl rfl ?_
    refine RL.cmp rfl rfl rfl rfl rfl (eql_slice Try.runUnderlying34 _ _ _) ?_
    refine RL.nil ?_
    refine NQ.seq ?_
    -- STOP: if; todo top: ["code", ["cond", ["t", 4], ["seq", ["region", 2, [{"d": 2, "op": ["assign", ["c", ["nilslice"]]], "ty": 34, "pos": "slices.go:358", "after": [], "guard": null}], false], ["ret"]], ["skip"]]]
    refine CW.condF rfl (rfl) ?_
    refine CW.skip ?_
    refine NQ.seq ?_
    refine CW.seq ?_
    refine CW.region (ef := [0, 2]) (bk := [2]) ?_
    refine RL.buildOwn [] Try.runUnderlying34 Try.sizeOf5 Try.zeroValue5 rfl rfl (by decide) (by decide) rfl (by decide) rfl rfl rfl rfl rfl rfl ?_
    intro b1
    refine RL.move rfl rfl rfl rfl ?_
    refine RL.appendA el_34 rfl rfl rfl rfl rfl rfl rfl (by first | exact ⟨(.take (Pick.none _)), rfl⟩ | exact ⟨(.leave (.take (Pick.none _))), rfl⟩ | exact ⟨(.leave (.leave (.take (Pick.none _)))), rfl⟩ | exact ⟨(.leave (.leave (.leave (.take (Pick.none _))))), rfl⟩ | exact ⟨(.leave (.leave (.leave (.leave (.take (Pick.none _)))))), rfl⟩ | exact ⟨(.leave (.leave (.leave (.leave (.leave (.take (Pick.none _))))))), rfl⟩ | exact ⟨(.leave (.leave (.leave (.leave (.leave (.leave (.take (Pick.none _)))))))), rfl⟩ | exact ⟨(.leave (.leave (.leave (.leave (.leave (.leave (.leave (.take (Pick.none _))))))))), rfl⟩ | exact ⟨(.leave (.leave (.leave (.leave (.leave (.leave (.leave (.leave (.take (Pick.none _)))))))))), rfl⟩ | exact ⟨(.leave (.leave (.leave (.leave (.leave (.leave (.leave (.leave (.leave (.take (Pick.none _))))))))))), rfl⟩) (by first | (exact Src.cel (by (solve | (repeat (first | exact List.Mem.head _ | apply List.Mem.tail)))) (by first | rfl | assumption | (simp only [List.length_map]; assumption) | (simp only [List.length_map, List.length_replicate]; done) | (simp; done))) | (exact Src.ownS (by (solve | (repeat (first | exact List.Mem.head _ | apply List.Mem.tail))))) | (exact Src.own (by (solve | (repeat (first | exact List.Mem.head _ | apply List.Mem.tail))))) | (exact Src.sls (by (solve | (repeat (first | exact List.Mem.head _ | apply List.Mem.tail)))))) (by first | exact one_map one8 _ | exact ones_spec rfl | exact one_map (fun _ => rfl) _ | (intro u hu; simp at hu; simp [hu, Value.oneCell'])) (by first | omega | (simp only [maxLen]; omega)) (by first | omega | (simp only [maxLen]; omega)) ?_
    intro ob1 cap1 ho1
    refine RL.assign rfl rfl rfl rfl ?_
    refine RL.nil ?_
    refine NQ.seq ?_
    refine CW.only (.cons (k := 2) rfl .nil) ?_
    refine CW.ret ?_
    -- STOP: ret; end
    rw [own_is (Nat.zero_add l.length) (List.nil_append _)]
    exact RQ.post (res1 rfl rfl) (.keep .nil) ⟨ob1, cap1, by rw [Nat.zero_add], rfl, rfl, by simpa using ho1⟩

/-- What is got, if there is something. -/
def gotR (k : Int) (l : List B8) : Option Rdg := if 1 ≤ k ∧ k ≤ 14 ∧ l.length = sizeR k ∧ (getR k l).mode.toNat ≤ 2 ∧ ¬ (k = 10 ∧ (getR k l).epoch = 0) then some (getR k l) else none
def gotV : Option Rdg → Value
  | some r => .tuple #[.agg r.cells.toArray, .int .i64 0]
  | none => .tuple #[.agg (rz 0).cells.toArray, .int .i64 120]

theorem rget_all (k : Nat) (hk : 1 ≤ k ∧ k ≤ 14) (d br : Nat) (p : Option Addr) (c n : Nat) (l : List B8) (hn : l.length = n) (hl : n = sizeR k) (hc : n ≤ c) : Spc Try.prog 84 #[.pointer (some ⟨d, 0, none⟩), .pointer (some ⟨br, 0, none⟩)] [sls p 1 n (bytes l)] [rdr d p n c, cel br (Rdg.cells (rz k)) 33]
    (fun _ I' H' => I' = [] ∧ ∃ x, H' = [x, cel br (Rdg.cells (getR k l)) 33]) := by
  subst hn
  match k, hk, hl with
  | 1, _, hl => exact rget_1 d br p c l hl hc
  | 2, _, hl => exact rget_2 d br p c l hl hc
  | 3, _, hl => exact rget_3 d br p c l hl hc
  | 4, _, hl => exact rget_4 d br p c l hl hc
  | 5, _, hl => exact rget_5 d br p c l hl hc
  | 6, _, hl => exact rget_6 d br p c l hl hc
  | 7, _, hl => exact rget_7 d br p c l hl hc
  | 8, _, hl => exact rget_8 d br p c l hl hc
  | 9, _, hl => exact rget_9 d br p c l hl hc
  | 10, _, hl => exact rget_10 d br p c l hl hc
  | 11, _, hl => exact rget_11 d br p c l hl hc
  | 12, _, hl => exact rget_12 d br p c l hl hc
  | 13, _, hl => exact rget_13 d br p c l hl hc
  | 14, _, hl => exact rget_14 d br p c l hl hc
  | _ + 15, h, _ => omega
  | 0, h, _ => omega

theorem sizeR_le : ∀ m : Nat, 1 ≤ m ∧ m ≤ 14 → sizeR (m : Int) ≤ 37
  | 1, _ => by decide
  | 2, _ => by decide
  | 3, _ => by decide
  | 4, _ => by decide
  | 5, _ => by decide
  | 6, _ => by decide
  | 7, _ => by decide
  | 8, _ => by decide
  | 9, _ => by decide
  | 10, _ => by decide
  | 11, _ => by decide
  | 12, _ => by decide
  | 13, _ => by decide
  | 14, _ => by decide
  | 0, h => by omega
  | _ + 15, h => by omega
theorem get_all (k : Int) (p : Option Addr) (n c : Nat) (l : List B8) (hn : l.length = n) (hc : n ≤ c) : Spc Try.prog 23 #[.int .i64 k, .slice p n c] [sls p 1 n (bytes l)] [] (Is (gotV (gotR k l))) := by
  by_cases hk : 1 ≤ k ∧ k ≤ 14
  · have hs : sizeV k = .tuple #[.int .i64 (sizeR k : Int), .int .i64 0] := by rw [sizeV, if_pos hk]
    refine Spc.enter Try.func23 rfl rfl rfl (fun w0 hw0 => ?_)
    refine CW.seq ?_
    refine CW.region (ef := [0]) (bk := []) ?_
    refine RL.alloc Try.zeroValue33 rfl rfl rfl rfl rfl ?_
    intro b1
    refine RL.assign rfl rfl rfl rfl ?_
    refine RL.nil ?_
    refine NQ.seq ?_
    refine CW.seq ?_
    refine CW.region (ef := []) (bk := []) ?_
    refine RL.move rfl rfl rfl rfl ?_
    refine RL.callv (size_any k) Try.call17 rfl rfl rfl rfl (by repeat (first | exact Lend.nil | (refine Lend.inI ?_ ?_; (solve | (repeat (first | exact List.Mem.head _ | apply List.Mem.tail)))) | (refine Lend.inH ?_ ?_; (solve | (repeat (first | exact List.Mem.head _ | apply List.Mem.tail)))))) ?_
    refine RL.move rfl rfl rfl rfl ?_
    -- STOP: op; op 3: d=13 ["extract", ["t", 10], 0] guard=None (kind.go:228)
    rw [hs]
    refine RL.extract rfl rfl rfl rfl rfl ?_
    refine RL.extract rfl rfl rfl rfl rfl ?_
    refine RL.assign rfl rfl rfl rfl ?_
    refine RL.assign rfl rfl rfl rfl ?_
    refine RL.nil ?_
    refine NQ.seq ?_
    refine CW.only (.cons (k := 0) rfl (.cons (k := 1) rfl (.cons (k := 4) rfl (.cons (k := 6) rfl (.cons (k := 7) rfl .nil))))) ?_
    refine CW.seq ?_
    refine CW.seq ?_
    refine CW.region (ef := []) (bk := []) ?_
    refine RL.move rfl rfl rfl rfl ?_
    refine RL.bin rfl rfl rfl rfl rfl rfl ?_
    refine RL.move rfl rfl rfl rfl ?_
    -- STOP: part 17; op 3: d=18 ["move", ["t", 6]] guard=[2, False] (kind.go:229)
    refine RL.cast (d := 17) (v' := .bool false) rfl (rfl) ?_
    refine RL.move rfl rfl rfl rfl ?_
    refine RL.move rfl rfl rfl rfl ?_
    refine RL.lenS Try.runUnderlying34 rfl rfl rfl rfl ?_
    refine RL.bin rfl rfl rfl rfl rfl rfl ?_
    refine RL.pickF rfl rfl rfl rfl rfl ?_
    refine RL.nil ?_
    refine NQ.seq ?_
    refine CW.only (.cons (k := 0) rfl (.cons (k := 1) rfl (.cons (k := 4) rfl (.cons (k := 22) rfl .nil)))) ?_
    -- STOP: if; todo top: ["code", ["cond", ["t", 22], ["seq", ["region", 3, [{"d": 23, "op": ["build", 33, []], "ty": 33, "pos": "kind.go:230", "after": [], "guard": null}, {"d": null, "op": ["store", 33, ["t", 4], ["t", 23]]
    refine CW.cond rfl (fun hne => ?_) (fun hne => ?_)
    ·
      refine CW.seq ?_
      refine CW.region (ef := [1]) (bk := [1]) ?_
      refine RL.buildS _ Try.zeroValue33 pl_33 rfl rfl rfl rfl rfl ?_
      refine RL.storeW Try.sizeOf33 rfl rfl rfl rfl rfl rfl rfl (by first | rfl | exact ones_map one8 _ | exact ones_map (fun _ => rfl) _) (by repeat (first | exact Upd.here | apply Upd.there)) (by first | rfl | assumption | (simp only [List.length_map]; assumption) | (simp only [List.length_map, List.length_replicate]; done) | (simp; done)) (by first | rfl | assumption | (simp only [List.length_map]; assumption) | (simp only [List.length_map, List.length_replicate]; done) | (simp; done)) ?_
      refine RL.assign rfl rfl rfl rfl ?_
      refine RL.nil ?_
      refine NQ.seq ?_
      refine CW.ret ?_
      refine RQ.seq ?_
      -- STOP: ret; end
      have hne : ¬ l.length = sizeR k := by intro e; simp [← hn, e] at hne
      exact RQ.post (resWT rfl rfl rfl Try.isAgg33 Try.sizeOf33 (by repeat (first | exact List.Mem.head _ | apply List.Mem.tail)) rfl) (Split.none _) ⟨by rw [gotR, if_neg (by omega)]; rfl, rfl, rfl⟩
    ·
      have hl : l.length = sizeR k := by simp [← hn] at hne; omega
      obtain ⟨m, rfl⟩ : ∃ m : Nat, k = (m : Int) := ⟨k.toNat, by omega⟩
      refine CW.skip ?_
      refine NQ.seq ?_
      refine CW.seq ?_
      refine CW.region (ef := [2, 3]) (bk := [3]) ?_
      refine RL.move rfl rfl rfl rfl ?_
      -- STOP: op; op 1: d=25 ["build", 33, [[0, ["t", 24]]]] guard=None (kind.go:232)
      refine RL.buildS (Rdg.cells (rz m)) Try.zeroValue33 pl_33 rfl rfl rfl rfl rfl ?_
      refine RL.alloc Try.zeroValue33 rfl rfl rfl rfl rfl ?_
      intro b2
      refine RL.storeW Try.sizeOf33 rfl rfl rfl rfl rfl rfl rfl (by first | rfl | exact ones_map one8 _ | exact ones_map (fun _ => rfl) _) (by repeat (first | exact Upd.here | apply Upd.there)) (by first | rfl | assumption | (simp only [List.length_map]; assumption) | (simp only [List.length_map, List.length_replicate]; done) | (simp; done)) (by first | rfl | assumption | (simp only [List.length_map]; assumption) | (simp only [List.length_map, List.length_replicate]; done) | (simp; done)) ?_
      refine RL.nil ?_
      refine NQ.seq ?_
      refine CW.seq ?_
      refine CW.region (ef := [1, 3]) (bk := []) ?_
      refine RL.move rfl rfl rfl rfl ?_
      refine RL.call (clone_any p n c l hn (by have := sizeR_le m (by omega); omega)) Try.call83 rfl rfl rfl rfl rfl (by repeat (first | exact Pick.nil | apply Pick.take | apply Pick.leave)) (by repeat (first | exact Lend.nil | (refine Lend.inI ?_ ?_; (solve | (repeat (first | exact List.Mem.head _ | apply List.Mem.tail)))) | (refine Lend.inH ?_ ?_; (solve | (repeat (first | exact List.Mem.head _ | apply List.Mem.tail)))))) (.inl rfl) ?_
      -- STOP: called; op 2: d=28 ["build", 182, [[0, ["t", 27]]]] guard=None (kind.go:233)
      rintro _ _ _ ⟨ob, cb, rfl, rfl, rfl, ho⟩
      refine RL.buildS [_] Try.zeroValue182 pl_182 rfl rfl rfl rfl rfl ?_
      refine RL.box rfl rfl rfl rfl rfl rfl ?_
      intro b3
      refine RL.assign rfl rfl rfl rfl ?_
      refine RL.nil ?_
      refine NQ.seq ?_
      refine CW.only (.cons (k := 0) rfl (.cons (k := 4) rfl (.cons (k := 8) rfl (.cons (k := 9) rfl .nil)))) ?_
      refine CW.seq ?_
      -- STOP: region; todo top: ["code", ["region", 6, [{"d": 30, "op": ["move", ["t", 9]], "ty": 181, "pos": "kind.go:234", "after": [], "guard": null}, {"d": 31, "op": ["call", ["f", 84], [["t", 30], ["t", 8]], [181, 184]], "ty": 
      refine CW.fact (p := l.length ≤ cb) (fun w hC => own_cap (hC.s.h (own ob cb 5 1 l.length (bytes l)) (by repeat (first | exact List.Mem.head _ | apply List.Mem.tail)))) (fun hcb => ?_)
      refine CW.tell (xs := bytes l) (by repeat (first | exact Pick.nil | apply Pick.take | apply Pick.leave)) (fun _ => ?_)
      refine CW.region (ef := [1]) (bk := [1]) ?_
      refine RL.move rfl rfl rfl rfl ?_
      refine RL.call (rget_all m (by omega) b3 b2 (ob.map fun b => ⟨b, 0, none⟩) cb l.length l rfl hl hcb) Try.call84 rfl rfl rfl rfl rfl (by repeat (first | exact Pick.nil | apply Pick.take | apply Pick.leave)) (.inI (List.Mem.head _) .nil) (.inr rfl) ?_
      -- STOP: called; todo top: ["code", ["region", 6, [{"d": 30, "op": ["move", ["t", 9]], "ty": 181, "pos": "kind.go:234", "after": [], "guard": null}, {"d": 31, "op": ["call", ["f", 84], [["t", 30], ["t", 8]], [181, 184]], "ty": 
      rintro _ _ _ ⟨rfl, x, rfl⟩
      refine RL.nil ?_
      refine NQ.seq ?_
      refine CW.seq ?_
      refine CW.seq ?_
      refine CW.region (ef := []) (bk := []) ?_
      refine RL.fieldAddr fa_33_12 rfl rfl rfl rfl ?_
      refine RL.load Try.isAgg5 rfl rfl rfl rfl (by first | assumption | (apply Rd.get; (solve | (repeat (first | exact List.Mem.head _ | apply List.Mem.tail))); assumption) | (apply Rd.getS; (solve | (repeat (first | exact List.Mem.head _ | apply List.Mem.tail))); assumption) | (apply Rd.getO; (solve | (repeat (first | exact List.Mem.head _ | apply List.Mem.tail))); assumption) | (apply Rd.getI; (solve | (repeat (first | exact List.Mem.head _ | apply List.Mem.tail))); assumption) | (apply Rd.cel; (solve | (repeat (first | exact List.Mem.head _ | apply List.Mem.tail))); exact rfl) | (apply Rd.celI; (solve | (repeat (first | exact List.Mem.head _ | apply List.Mem.tail))); exact rfl)) ?_
      refine RL.bin rfl rfl rfl rfl rfl rfl ?_
      refine RL.move rfl rfl rfl rfl ?_
      -- STOP: part 35; op 4: d=36 ["move", ["t", 0]] guard=[3, False] (kind.go:235)
      refine RL.part (d := 35) rfl (fun h1 => ?_) (fun h1 => ?_)
      ·
        refine RL.skip rfl rfl rfl rfl ?_
        refine RL.skip rfl rfl rfl rfl ?_
        refine RL.skip rfl rfl rfl rfl ?_
        refine RL.skip rfl rfl rfl rfl ?_
        refine RL.skip rfl rfl rfl rfl ?_
        refine RL.skip rfl rfl rfl rfl ?_
        refine RL.skip rfl rfl rfl rfl ?_
        refine RL.pickT rfl rfl rfl rfl rfl ?_
        refine RL.nil ?_
        refine NQ.seq ?_
        refine CW.only (.cons (k := 4) rfl (.cons (k := 8) rfl (.cons (k := 43) rfl .nil))) ?_
        refine CW.condT rfl rfl ?_
        refine CW.seq ?_
        refine CW.region (ef := [1]) (bk := [1]) ?_
        refine RL.buildS _ Try.zeroValue33 pl_33 rfl rfl rfl rfl rfl ?_
        refine RL.storeW Try.sizeOf33 rfl rfl rfl rfl rfl rfl rfl (by first | rfl | exact ones_map one8 _ | exact ones_map (fun _ => rfl) _) (by repeat (first | exact Upd.here | apply Upd.there)) (by first | rfl | assumption | (simp only [List.length_map]; assumption) | (simp only [List.length_map, List.length_replicate]; done) | (simp; done)) (by first | rfl | assumption | (simp only [List.length_map]; assumption) | (simp only [List.length_map, List.length_replicate]; done) | (simp; done)) ?_
        refine RL.assign rfl rfl rfl rfl ?_
        refine RL.nil ?_
        refine NQ.seq ?_
        refine CW.ret ?_
        refine RQ.seq ?_
        -- STOP: ret; end
        have h1 : 2 < (getR m l).mode.toNat := by simp at h1; omega
        exact RQ.post (resWT rfl rfl rfl Try.isAgg33 Try.sizeOf33 (by repeat (first | exact List.Mem.head _ | apply List.Mem.tail)) rfl) (Split.none _) ⟨by rw [gotR, if_neg (by omega)]; rfl, rfl, rfl⟩
      ·
        refine RL.move rfl rfl rfl rfl ?_
        refine RL.bin rfl rfl rfl rfl rfl rfl ?_
        refine RL.move rfl rfl rfl rfl ?_
        -- STOP: part 38; op 7: d=39 ["fieldAddr", 33, ["t", 8], 13] guard=[6, True] (kind.go:235)
        have h1 : ¬ 2 < (getR m l).mode.toNat := by simp at h1; omega
        refine RL.part (d := 38) rfl (fun h2 => ?_) (fun h2 => ?_)
        ·
          refine RL.fieldAddr fa_33_13 rfl rfl rfl rfl ?_
          refine RL.load Try.isAgg25 rfl rfl rfl rfl (by first | assumption | (apply Rd.get; (solve | (repeat (first | exact List.Mem.head _ | apply List.Mem.tail))); assumption) | (apply Rd.getS; (solve | (repeat (first | exact List.Mem.head _ | apply List.Mem.tail))); assumption) | (apply Rd.getO; (solve | (repeat (first | exact List.Mem.head _ | apply List.Mem.tail))); assumption) | (apply Rd.getI; (solve | (repeat (first | exact List.Mem.head _ | apply List.Mem.tail))); assumption) | (apply Rd.cel; (solve | (repeat (first | exact List.Mem.head _ | apply List.Mem.tail))); exact rfl) | (apply Rd.celI; (solve | (repeat (first | exact List.Mem.head _ | apply List.Mem.tail))); exact rfl)) ?_
          refine RL.bin rfl rfl rfl rfl rfl rfl ?_
          refine RL.pickT rfl rfl rfl rfl rfl ?_
          refine RL.pickF rfl rfl rfl rfl rfl ?_
          refine RL.nil ?_
          refine NQ.seq ?_
          refine CW.only (.cons (k := 4) rfl (.cons (k := 8) rfl (.cons (k := 43) rfl .nil))) ?_
          -- STOP: if; todo top: ["code", ["cond", ["t", 43], ["seq", ["region", 8, [{"d": 44, "op": ["build", 33, []], "ty": 33, "pos": "kind.go:236", "after": [], "guard": null}, {"d": null, "op": ["store", 33, ["t", 4], ["t", 44]]
          have h2 : (m : Int) = 10 := by simpa using h2
          refine CW.cond rfl (fun h3 => ?_) (fun h3 => ?_)
          ·
            refine CW.seq ?_
            refine CW.region (ef := [1]) (bk := [1]) ?_
            refine RL.buildS _ Try.zeroValue33 pl_33 rfl rfl rfl rfl rfl ?_
            refine RL.storeW Try.sizeOf33 rfl rfl rfl rfl rfl rfl rfl (by first | rfl | exact ones_map one8 _ | exact ones_map (fun _ => rfl) _) (by repeat (first | exact Upd.here | apply Upd.there)) (by first | rfl | assumption | (simp only [List.length_map]; assumption) | (simp only [List.length_map, List.length_replicate]; done) | (simp; done)) (by first | rfl | assumption | (simp only [List.length_map]; assumption) | (simp only [List.length_map, List.length_replicate]; done) | (simp; done)) ?_
            refine RL.assign rfl rfl rfl rfl ?_
            refine RL.nil ?_
            refine NQ.seq ?_
            refine CW.ret ?_
            refine RQ.seq ?_
            -- STOP: ret; end
            have h3 : (getR m l).epoch = 0 := by simpa using h3
            exact RQ.post (resWT rfl rfl rfl Try.isAgg33 Try.sizeOf33 (by repeat (first | exact List.Mem.head _ | apply List.Mem.tail)) rfl) (Split.none _) ⟨by rw [gotR, if_neg (by omega)]; rfl, rfl, rfl⟩
          ·
            refine CW.skip ?_
            refine NQ.seq ?_
            refine CW.seq ?_
            refine CW.region (ef := [1]) (bk := [1]) ?_
            refine RL.loadW Try.isAgg33 Try.sizeOf33 rfl rfl rfl rfl (by repeat (first | exact List.Mem.head _ | apply List.Mem.tail)) (by first | rfl | assumption | (simp only [List.length_map]; assumption) | (simp only [List.length_map, List.length_replicate]; done) | (simp; done)) ?_
            refine RL.storeW Try.sizeOf33 rfl rfl rfl rfl rfl rfl rfl (by first | rfl | exact ones_map one8 _ | exact ones_map (fun _ => rfl) _) (by repeat (first | exact Upd.here | apply Upd.there)) (by first | rfl | assumption | (simp only [List.length_map]; assumption) | (simp only [List.length_map, List.length_replicate]; done) | (simp; done)) (by first | rfl | assumption | (simp only [List.length_map]; assumption) | (simp only [List.length_map, List.length_replicate]; done) | (simp; done)) ?_
            refine RL.assign rfl rfl rfl rfl ?_
            refine RL.nil ?_
            refine NQ.seq ?_
            refine CW.ret ?_
            -- STOP: ret; end
            have h3 : ¬ (getR m l).epoch = 0 := by simpa using h3
            exact RQ.post (resWT rfl rfl rfl Try.isAgg33 Try.sizeOf33 (by repeat (first | exact List.Mem.head _ | apply List.Mem.tail)) rfl) (Split.none _) ⟨by rw [gotR, if_pos (by omega)]; rfl, rfl, rfl⟩
        ·
          refine RL.skip rfl rfl rfl rfl ?_
          refine RL.skip rfl rfl rfl rfl ?_
          refine RL.skip rfl rfl rfl rfl ?_
          refine RL.pickF rfl rfl rfl rfl rfl ?_
          refine RL.pickF rfl rfl rfl rfl rfl ?_
          refine RL.nil ?_
          refine NQ.seq ?_
          refine CW.only (.cons (k := 4) rfl (.cons (k := 8) rfl (.cons (k := 43) rfl .nil))) ?_
          refine CW.condF rfl rfl ?_
          refine CW.skip ?_
          refine NQ.seq ?_
          refine CW.seq ?_
          refine CW.region (ef := [1]) (bk := [1]) ?_
          refine RL.loadW Try.isAgg33 Try.sizeOf33 rfl rfl rfl rfl (by repeat (first | exact List.Mem.head _ | apply List.Mem.tail)) (by first | rfl | assumption | (simp only [List.length_map]; assumption) | (simp only [List.length_map, List.length_replicate]; done) | (simp; done)) ?_
          refine RL.storeW Try.sizeOf33 rfl rfl rfl rfl rfl rfl rfl (by first | rfl | exact ones_map one8 _ | exact ones_map (fun _ => rfl) _) (by repeat (first | exact Upd.here | apply Upd.there)) (by first | rfl | assumption | (simp only [List.length_map]; assumption) | (simp only [List.length_map, List.length_replicate]; done) | (simp; done)) (by first | rfl | assumption | (simp only [List.length_map]; assumption) | (simp only [List.length_map, List.length_replicate]; done) | (simp; done)) ?_
          refine RL.assign rfl rfl rfl rfl ?_
          refine RL.nil ?_
          refine NQ.seq ?_
          refine CW.ret ?_
          -- STOP: ret; end
          have h2 : ¬ (m : Int) = 10 := by simpa using h2
          exact RQ.post (resWT rfl rfl rfl Try.isAgg33 Try.sizeOf33 (by repeat (first | exact List.Mem.head _ | apply List.Mem.tail)) rfl) (Split.none _) ⟨by rw [gotR, if_pos (by omega)]; rfl, rfl, rfl⟩
  · have hs : sizeV k = .tuple #[.int .i64 0, .int .i64 120] := by rw [sizeV, if_neg hk]
    refine Spc.enter Try.func23 rfl rfl rfl (fun w0 hw0 => ?_)
    refine CW.seq ?_
    refine CW.region (ef := [0]) (bk := []) ?_
    refine RL.alloc Try.zeroValue33 rfl rfl rfl rfl rfl ?_
    intro b1
    refine RL.assign rfl rfl rfl rfl ?_
    refine RL.nil ?_
    refine NQ.seq ?_
    refine CW.seq ?_
    refine CW.region (ef := []) (bk := []) ?_
    refine RL.move rfl rfl rfl rfl ?_
    refine RL.callv (size_any k) Try.call17 rfl rfl rfl rfl (by repeat (first | exact Lend.nil | (refine Lend.inI ?_ ?_; (solve | (repeat (first | exact List.Mem.head _ | apply List.Mem.tail)))) | (refine Lend.inH ?_ ?_; (solve | (repeat (first | exact List.Mem.head _ | apply List.Mem.tail)))))) ?_
    refine RL.move rfl rfl rfl rfl ?_
    -- STOP: op; op 3: d=13 ["extract", ["t", 10], 0] guard=None (kind.go:228)
    rw [hs]
    refine RL.extract rfl rfl rfl rfl rfl ?_
    refine RL.extract rfl rfl rfl rfl rfl ?_
    refine RL.assign rfl rfl rfl rfl ?_
    refine RL.assign rfl rfl rfl rfl ?_
    refine RL.nil ?_
    refine NQ.seq ?_
    refine CW.only (.cons (k := 0) rfl (.cons (k := 1) rfl (.cons (k := 4) rfl (.cons (k := 6) rfl (.cons (k := 7) rfl .nil))))) ?_
    refine CW.seq ?_
    refine CW.seq ?_
    refine CW.region (ef := []) (bk := []) ?_
    refine RL.move rfl rfl rfl rfl ?_
    refine RL.bin rfl rfl rfl rfl rfl rfl ?_
    refine RL.move rfl rfl rfl rfl ?_
    -- STOP: part 17; op 3: d=18 ["move", ["t", 6]] guard=[2, False] (kind.go:229)
    refine RL.cast (d := 17) (v' := .bool true) rfl (rfl) ?_
    refine RL.skip rfl rfl rfl rfl ?_
    refine RL.skip rfl rfl rfl rfl ?_
    refine RL.skip rfl rfl rfl rfl ?_
    refine RL.skip rfl rfl rfl rfl ?_
    refine RL.pickT rfl rfl rfl rfl rfl ?_
    refine RL.nil ?_
    refine NQ.seq ?_
    refine CW.only (.cons (k := 0) rfl (.cons (k := 1) rfl (.cons (k := 4) rfl (.cons (k := 22) rfl .nil)))) ?_
    refine CW.condT rfl rfl ?_
    refine CW.seq ?_
    refine CW.region (ef := [1]) (bk := [1]) ?_
    refine RL.buildS _ Try.zeroValue33 pl_33 rfl rfl rfl rfl rfl ?_
    refine RL.storeW Try.sizeOf33 rfl rfl rfl rfl rfl rfl rfl (by first | rfl | exact ones_map one8 _ | exact ones_map (fun _ => rfl) _) (by repeat (first | exact Upd.here | apply Upd.there)) (by first | rfl | assumption | (simp only [List.length_map]; assumption) | (simp only [List.length_map, List.length_replicate]; done) | (simp; done)) (by first | rfl | assumption | (simp only [List.length_map]; assumption) | (simp only [List.length_map, List.length_replicate]; done) | (simp; done)) ?_
    refine RL.assign rfl rfl rfl rfl ?_
    refine RL.nil ?_
    refine NQ.seq ?_
    refine CW.ret ?_
    refine RQ.seq ?_
    -- STOP: ret; end
    exact RQ.post (resWT rfl rfl rfl Try.isAgg33 Try.sizeOf33 (by repeat (first | exact List.Mem.head _ | apply List.Mem.tail)) rfl) (Split.none _) ⟨by rw [gotR, if_neg (by omega)]; rfl, rfl, rfl⟩
theorem get_any (k : Int) (p : Option Addr) (n c : Nat) (l : List B8) (hn : l.length = n) (hc : n ≤ c) (_ : n ≤ 1000000000) : Spc Try.prog 23 #[.int .i64 k, .slice p n c] [sls p 1 n (bytes l)] [] (Is (gotV (gotR k l))) := get_all k p n c l hn hc
end Go.Proofs.Ytflpiaeffnoepaa
