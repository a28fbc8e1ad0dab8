import Derived.Test.YtflpiaeffnoepaaRdg
namespace Go.Proofs.Ytflpiaeffnoepaa
open Go.PK

/-- A writer that has written so much. -/
def wrt (w : Nat) (ob : Option Nat) (n cap : Nat) : It := cel w [slO ob n cap] 175
def WrR (w : Nat) (m : List B8) : Value → List It → List It → Prop := fun _ I' H' => I' = [] ∧ ∃ ob cap, H' = [wrt w ob m.length cap, own ob cap 5 1 m.length (bytes m)]

theorem wnum_any (w : Nat) (ob : Option Nat) (cap n k X : Nat) (m : List B8) (hn : m.length = n) (hk : k ≤ 8) (hb : n ≤ 1000000000) (hX : X < 18446744073709551616) :
    Spc Try.prog 131 #[.pointer (some ⟨w, 0, none⟩), .int .u64 (X : Int), .int .i64 (k : Int)] [] [wrt w ob n cap, own ob cap 5 1 n (bytes m)] (WrR w (m ++ beN k X)) := by
  subst hn
  unfold wrt
  refine Spc.enter Try.func131 rfl rfl rfl (fun w0 hw0 => ?_)
  refine CW.seq ?_
  refine CW.region (ef := []) (bk := []) ?_
  refine RL.move rfl rfl rfl rfl ?_
  refine RL.move rfl rfl rfl rfl ?_
  refine RL.nil ?_
  refine NQ.seq ?_
  refine CW.block ?_
  -- STOP: loop; todo top: ["code", ["loop", ["seq", ["region", 1, [{"d": 9, "op": ["binOp", "Go.BinOp.lss", 3, ["t", 8], ["t", 7], 3], "ty": 4, "pos": "kind.go:58", "after": [], "guard": null}], false], ["seq", ["cond", ["t", 
  refine CW.loop (γ := Nat × Option Nat × Nat) (fun g => g.1 ≤ k) (fun g => [(0, .pointer (some ⟨w, 0, none⟩)), (1, .int .u64 (X : Int)), (2, .int .i64 (k : Int)), (7, .int .i64 (k : Int)), (8, .int .i64 (g.1 : Int))]) (fun _ => [])
    (fun g => [cel w [slO g.2.1 (m.length + g.1) g.2.2] 175, own g.2.1 g.2.2 5 1 (m.length + g.1) (bytes (m ++ (beN k X).take g.1))]) (fun g => k - g.1) (0, ob, cap) (by simp)
    (.cons rfl (.cons rfl (.cons rfl (.cons rfl (.cons rfl .nil))))) (fun w h => by simpa using h) ?_
  rintro ⟨i, ob', c'⟩ hi
  dsimp only at hi ⊢
  refine CW.seq ?_
  refine CW.region (ef := []) (bk := []) ?_
  refine RL.bin rfl rfl rfl rfl rfl rfl ?_
  refine RL.nil ?_
  refine NQ.seq ?_
  refine CW.seq ?_
  -- STOP: if; todo top: ["code", ["cond", ["t", 9], ["skip"], ["exit", 0]]]
  refine CW.cond rfl (fun hlt => ?_) (fun hlt => ?_)
  ·
    refine CW.skip ?_
    refine NQ.seq ?_
    refine CW.seq ?_
    refine CW.block ?_
    refine CW.seq ?_
    refine CW.region (ef := []) (bk := []) ?_
    refine RL.move rfl rfl rfl rfl ?_
    refine RL.assign rfl rfl rfl rfl ?_
    refine RL.nil ?_
    refine NQ.seq ?_
    refine CW.regionD (Sq.of [0, 1, 2, 3, 4, 5, 6, 7, 8, 9, 10, 11, 12, 13, 14, 15, 16, 17]) [13, 14, 17] [14, 17] [0, 1, 2, 3, 5, 6, 7, 8, 9, 10, 11, 12, 15, 16] mixed (by kernel_rfl) ?_
    refine RL.move rfl rfl rfl rfl ?_
    refine RL.move rfl rfl rfl rfl ?_
    refine RL.nilCheck rfl rfl rfl rfl ?_
    refine RL.fieldAddr fa_175_0 rfl rfl rfl rfl ?_
    refine RL.load Try.isAgg34 rfl rfl rfl rfl (by first | assumption | (apply Rd.get; (solve | (repeat (first | exact List.Mem.head _ | apply List.Mem.tail))); assumption) | (apply Rd.getS; (solve | (repeat (first | exact List.Mem.head _ | apply List.Mem.tail))); assumption) | (apply Rd.getO; (solve | (repeat (first | exact List.Mem.head _ | apply List.Mem.tail))); assumption) | (apply Rd.getI; (solve | (repeat (first | exact List.Mem.head _ | apply List.Mem.tail))); assumption) | (apply Rd.cel; (solve | (repeat (first | exact List.Mem.head _ | apply List.Mem.tail))); exact rfl) | (apply Rd.celI; (solve | (repeat (first | exact List.Mem.head _ | apply List.Mem.tail))); exact rfl)) ?_
    refine RL.move rfl rfl rfl rfl ?_
    refine RL.move rfl rfl rfl rfl ?_
    refine RL.binX rfl rfl rfl rfl rfl rfl (wrapV_i64 (by omega) (by omega)) ?_
    refine RL.move rfl rfl rfl rfl ?_
    refine RL.binX rfl rfl rfl rfl rfl rfl (wrapV_i64 (by omega) (by omega)) ?_
    refine RL.binX rfl rfl rfl rfl rfl rfl (wrapV_i64 (by omega) (by omega)) ?_
    -- STOP: op; op 11: d=22 ["binOp", "Go.BinOp.shr", 30, ["t", 16], ["t", 21], 3] guard=None (kind.go:59)
    have hlt : i < k := by simp at hlt; omega
    refine RL.shr (8 * (k - 1 - i)) rfl rfl rfl rfl rfl (by omega) (by show 8 * (k - 1 - i) ≤ 64; omega) ?_
    refine RL.lowest Try.runUnderlying30 Try.runUnderlying5 rfl rfl rfl rfl ?_
    refine RL.buildSlice [_] Try.runUnderlying34 Try.sizeOf5 Try.zeroValue5 rfl rfl (by decide) (by decide) rfl rfl rfl rfl rfl rfl ?_
    intro b1
    refine RL.appendA el_34 rfl rfl rfl rfl rfl rfl rfl (by first | exact ⟨(.take (Pick.none _)), rfl⟩ | exact ⟨(.leave (.take (Pick.none _))), rfl⟩ | exact ⟨(.leave (.leave (.take (Pick.none _)))), rfl⟩ | exact ⟨(.leave (.leave (.leave (.take (Pick.none _))))), rfl⟩ | exact ⟨(.leave (.leave (.leave (.leave (.take (Pick.none _)))))), rfl⟩ | exact ⟨(.leave (.leave (.leave (.leave (.leave (.take (Pick.none _))))))), rfl⟩ | exact ⟨(.leave (.leave (.leave (.leave (.leave (.leave (.take (Pick.none _)))))))), rfl⟩ | exact ⟨(.leave (.leave (.leave (.leave (.leave (.leave (.leave (.take (Pick.none _))))))))), rfl⟩ | exact ⟨(.leave (.leave (.leave (.leave (.leave (.leave (.leave (.leave (.take (Pick.none _)))))))))), rfl⟩ | exact ⟨(.leave (.leave (.leave (.leave (.leave (.leave (.leave (.leave (.leave (.take (Pick.none _))))))))))), rfl⟩) (by first | (exact Src.cel (by (solve | (repeat (first | exact List.Mem.head _ | apply List.Mem.tail)))) (by first | rfl | assumption | (simp only [List.length_map]; assumption) | (simp only [List.length_map, List.length_replicate]; done) | (simp; done))) | (exact Src.ownS (by (solve | (repeat (first | exact List.Mem.head _ | apply List.Mem.tail))))) | (exact Src.own (by (solve | (repeat (first | exact List.Mem.head _ | apply List.Mem.tail))))) | (exact Src.sls (by (solve | (repeat (first | exact List.Mem.head _ | apply List.Mem.tail)))))) (by first | exact one_map one8 _ | exact ones_spec rfl | exact one_map (fun _ => rfl) _ | (intro u hu; simp at hu; simp [hu, Value.oneCell'])) (by first | omega | (simp only [maxLen]; omega)) (by first | omega | (simp only [maxLen]; omega)) ?_
    intro ob1 cap1 ho1
    refine RL.nilCheck rfl rfl rfl rfl ?_
    refine RL.fieldAddr fa_175_0 rfl rfl rfl rfl ?_
    refine RL.store (vs := [_]) Try.sizeOf34 rfl rfl rfl rfl rfl rfl rfl rfl rfl (by repeat (first | exact Upd.here | apply Upd.there)) ?_
    refine RL.nil ?_
    refine NQ.block ?_
    refine NQ.seq ?_
    refine CW.only (.cons (k := 0) rfl (.cons (k := 1) rfl (.cons (k := 2) rfl (.cons (k := 7) rfl (.cons (k := 8) rfl .nil))))) ?_
    refine CW.region (ef := []) (bk := []) ?_
    refine RL.binX rfl rfl rfl rfl rfl rfl (wrapV_i64 (by omega) (by omega)) ?_
    refine RL.move rfl rfl rfl rfl ?_
    refine RL.nil ?_
    -- STOP: round; todo top: ["N"]
    refine NQ.round (g := (i, ob', c')) (i + 1, ob1, cap1) hlt (by show k - (i + 1) < k - i; omega) (.cons rfl (.cons rfl (.cons rfl (.cons rfl (.cons rfl .nil))))) (fun z h => ?_)
    rw [own_is (ob := ob1) (n' := m.length + (i + 1)) (xs' := bytes (m ++ (beN k X).take (i + 1))) (by omega) (by rw [beN_take _ _ _ hlt, ← shrA]; simp)] at h
    exact h.rea (fun _ h => h) (by repeat (first | exact Rea.nil | (apply Rea.cons; (solve | (repeat (first | exact Del.here | apply Del.there))))))
  ·
    refine CW.exit ?_
    refine XQ.seq ?_
    refine XQ.seq ?_
    refine XQ.hit ?_
    -- STOP: end; todo top: ["N"]
    have hik : i = k := by simp at hlt; omega
    subst hik
    have e : m.length + i = (m ++ beN i X).length := by rw [List.length_append, beN_length]
    rw [List.take_of_length_le (by rw [beN_length]; exact Nat.le_refl _), e]
    exact NQ.post (res0 rfl) (.keep (.keep .nil)) ⟨rfl, ob', c', rfl⟩

def ints32 (l : List Int) : List Value := l.map (Value.int .i32)
def ints64 (l : List Int) : List Value := l.map (Value.int .i64)

theorem wshort_any (w : Nat) (ob : Option Nat) (p : Option Addr) (cap n c k : Nat) (m : List B8) (l : List Int) (hn : m.length = n) (hk : l.length = k) (hk2 : k ≤ 8) (hb : n ≤ 1000000000) (hl : ∀ x ∈ l, -9223372036854775808 ≤ x ∧ x ≤ 9223372036854775807) :
    Spc Try.prog 129 #[.pointer (some ⟨w, 0, none⟩), .slice p k c] [sls p 1 k (ints32 l)] [wrt w ob n cap, own ob cap 5 1 n (bytes m)] (WrR w (m ++ l.flatMap be4)) := by
  subst hn
  subst hk
  unfold wrt
  refine Spc.enter Try.func129 rfl rfl rfl (fun w0 hw0 => ?_)
  refine CW.seq ?_
  refine CW.region (ef := []) (bk := []) ?_
  refine RL.move rfl rfl rfl rfl ?_
  refine RL.lenS Try.runUnderlying245 rfl rfl rfl rfl ?_
  refine RL.move rfl rfl rfl rfl ?_
  refine RL.nil ?_
  refine NQ.seq ?_
  refine CW.block ?_
  -- STOP: loop; todo top: ["code", ["loop", ["seq", ["region", 1, [{"d": 10, "op": ["binOp", "Go.BinOp.lss", 3, ["t", 9], ["t", 8], 3], "ty": 0, "pos": "kind.go:65", "after": [], "guard": null}], false], ["seq", ["cond", ["t",
  refine CW.loop (γ := Nat × Option Nat × Nat) (fun g => g.1 ≤ l.length) (fun g => [(0, .pointer (some ⟨w, 0, none⟩)), (7, .slice p l.length c), (8, .int .i64 (l.length : Int)), (9, .int .i64 (g.1 : Int))]) (fun _ => [sls p 1 l.length (ints32 l)])
    (fun g => [cel w [slO g.2.1 (m ++ (l.take g.1).flatMap be4).length g.2.2] 175, own g.2.1 g.2.2 5 1 (m ++ (l.take g.1).flatMap be4).length (bytes (m ++ (l.take g.1).flatMap be4))]) (fun g => l.length - g.1) (0, ob, cap) (by simp)
    (.cons rfl (.cons rfl (.cons rfl (.cons rfl .nil)))) (fun w h => by simpa using h) ?_
  rintro ⟨i, ob', c'⟩ hi
  dsimp only at hi ⊢
  refine CW.fact (p := p = none → l.length = 0) (fun w hC e => sls_nil (hC.s.i _ (List.Mem.head _)) e) (fun hpp => ?_)
  refine CW.seq ?_
  refine CW.region (ef := []) (bk := []) ?_
  refine RL.bin rfl rfl rfl rfl rfl rfl ?_
  refine RL.nil ?_
  refine NQ.seq ?_
  refine CW.seq ?_
  -- STOP: if; todo top: ["code", ["cond", ["t", 10], ["skip"], ["exit", 0]]]
  refine CW.cond rfl (fun hlt => ?_) (fun hlt => ?_)
  ·
    refine CW.skip ?_
    refine NQ.seq ?_
    refine CW.seq ?_
    refine CW.block ?_
    refine CW.seq ?_
    refine CW.region (ef := []) (bk := []) ?_
    -- STOP: op; op 0: d=11 ["indexAddr", 245, ["t", 7], ["t", 9]] guard=None (kind.go:65)
    have hlt : i < l.length := by simp at hlt; omega
    have hxb := hl _ (List.getElem_mem hlt)
    have hv : (ints32 l)[i * 1]? = some (.int .i32 l[i]) := by simp [ints32, hlt]
    have hs : (l.take (i + 1)).flatMap be4 = (l.take i).flatMap be4 ++ be4 l[i] := by rw [List.take_succ_eq_append_getElem hlt, List.flatMap_append]; simp
    generalize l[i] = x at hv hs hxb
    have hlm : (m ++ (l.take i).flatMap be4).length ≤ 1000000100 := by rw [List.length_append, length_flat (n := 4) (fun a _ => be4_length a), List.length_take]; omega
    have hl2 : (m ++ (l.take i).flatMap be4).length + 4 = (m ++ (l.take (i + 1)).flatMap be4).length := by rw [hs, ← List.append_assoc]; generalize m ++ (l.take i).flatMap be4 = y; rw [List.length_append, be4_length]
    obtain ⟨a, rfl⟩ : ∃ a, p = some a := by
      cases p with
      | none => exact absurd (hpp rfl) (by omega)
      | some a => exact ⟨a, rfl⟩
    refine RL.idx (j := i) Try.runUnderlying245 Try.sizeOf22 rfl rfl rfl rfl rfl rfl hlt ?_
    refine RL.load Try.isAgg22 rfl rfl rfl rfl (by first | assumption | (apply Rd.get; (solve | (repeat (first | exact List.Mem.head _ | apply List.Mem.tail))); assumption) | (apply Rd.getS; (solve | (repeat (first | exact List.Mem.head _ | apply List.Mem.tail))); assumption) | (apply Rd.getO; (solve | (repeat (first | exact List.Mem.head _ | apply List.Mem.tail))); assumption) | (apply Rd.getI; (solve | (repeat (first | exact List.Mem.head _ | apply List.Mem.tail))); assumption) | (apply Rd.cel; (solve | (repeat (first | exact List.Mem.head _ | apply List.Mem.tail))); exact rfl) | (apply Rd.celI; (solve | (repeat (first | exact List.Mem.head _ | apply List.Mem.tail))); exact rfl)) ?_
    refine RL.assign rfl rfl rfl rfl ?_
    refine RL.nil ?_
    refine NQ.seq ?_
    refine CW.seq ?_
    refine CW.region (ef := [2, 3]) (bk := [3]) ?_
    refine RL.move rfl rfl rfl rfl ?_
    refine RL.callv (sput_any x) Try.call173 rfl rfl rfl rfl (by repeat (first | exact Lend.nil | (refine Lend.inI ?_ ?_; (solve | (repeat (first | exact List.Mem.head _ | apply List.Mem.tail)))) | (refine Lend.inH ?_ ?_; (solve | (repeat (first | exact List.Mem.head _ | apply List.Mem.tail)))))) ?_
    refine RL.alloc Try.zeroValue322 rfl rfl rfl rfl rfl ?_
    intro b1
    refine RL.storeW Try.sizeOf322 rfl rfl rfl rfl rfl rfl rfl (by first | rfl | exact ones_map one8 _ | exact ones_map (fun _ => rfl) _) (by repeat (first | exact Upd.here | apply Upd.there)) (by first | rfl | assumption | (simp only [List.length_map]; assumption) | (simp only [List.length_map, List.length_replicate]; done) | (simp; done)) (by first | rfl | assumption | (simp only [List.length_map]; assumption) | (simp only [List.length_map, List.length_replicate]; done) | (simp; done)) ?_
    refine RL.nil ?_
    refine NQ.seq ?_
    refine CW.only (.cons (k := 0) rfl (.cons (k := 6) rfl (.cons (k := 7) rfl (.cons (k := 8) rfl (.cons (k := 9) rfl .nil))))) ?_
    refine CW.regionD (Sq.of [0, 1, 2, 3, 4, 5, 6, 7, 8, 9]) [6, 9] [6, 9] [0, 1, 2, 3, 5, 7, 8] mixed (by kernel_rfl) ?_
    refine RL.move rfl rfl rfl rfl ?_
    refine RL.move rfl rfl rfl rfl ?_
    refine RL.nilCheck rfl rfl rfl rfl ?_
    refine RL.fieldAddr fa_175_0 rfl rfl rfl rfl ?_
    refine RL.load Try.isAgg34 rfl rfl rfl rfl (by first | assumption | (apply Rd.get; (solve | (repeat (first | exact List.Mem.head _ | apply List.Mem.tail))); assumption) | (apply Rd.getS; (solve | (repeat (first | exact List.Mem.head _ | apply List.Mem.tail))); assumption) | (apply Rd.getO; (solve | (repeat (first | exact List.Mem.head _ | apply List.Mem.tail))); assumption) | (apply Rd.getI; (solve | (repeat (first | exact List.Mem.head _ | apply List.Mem.tail))); assumption) | (apply Rd.cel; (solve | (repeat (first | exact List.Mem.head _ | apply List.Mem.tail))); exact rfl) | (apply Rd.celI; (solve | (repeat (first | exact List.Mem.head _ | apply List.Mem.tail))); exact rfl)) ?_
    refine RL.sliceAll Try.runUnderlying322 Try.sizeOf5 (by decide) rfl rfl rfl rfl ?_
    refine RL.appendA el_34 rfl rfl rfl rfl rfl rfl rfl (by first | exact ⟨(.take (Pick.none _)), rfl⟩ | exact ⟨(.leave (.take (Pick.none _))), rfl⟩ | exact ⟨(.leave (.leave (.take (Pick.none _)))), rfl⟩ | exact ⟨(.leave (.leave (.leave (.take (Pick.none _))))), rfl⟩ | exact ⟨(.leave (.leave (.leave (.leave (.take (Pick.none _)))))), rfl⟩ | exact ⟨(.leave (.leave (.leave (.leave (.leave (.take (Pick.none _))))))), rfl⟩ | exact ⟨(.leave (.leave (.leave (.leave (.leave (.leave (.take (Pick.none _)))))))), rfl⟩ | exact ⟨(.leave (.leave (.leave (.leave (.leave (.leave (.leave (.take (Pick.none _))))))))), rfl⟩ | exact ⟨(.leave (.leave (.leave (.leave (.leave (.leave (.leave (.leave (.take (Pick.none _)))))))))), rfl⟩ | exact ⟨(.leave (.leave (.leave (.leave (.leave (.leave (.leave (.leave (.leave (.take (Pick.none _))))))))))), rfl⟩) (by first | (exact Src.cel (by (solve | (repeat (first | exact List.Mem.head _ | apply List.Mem.tail)))) (by first | rfl | assumption | (simp only [List.length_map]; assumption) | (simp only [List.length_map, List.length_replicate]; done) | (simp; done))) | (exact Src.ownS (by (solve | (repeat (first | exact List.Mem.head _ | apply List.Mem.tail))))) | (exact Src.own (by (solve | (repeat (first | exact List.Mem.head _ | apply List.Mem.tail))))) | (exact Src.sls (by (solve | (repeat (first | exact List.Mem.head _ | apply List.Mem.tail)))))) (by first | exact one_map one8 _ | exact ones_spec rfl | exact one_map (fun _ => rfl) _ | (intro u hu; simp at hu; simp [hu, Value.oneCell'])) (by first | omega | (simp only [maxLen]; omega)) (by first | omega | (simp only [maxLen]; omega)) ?_
    intro ob1 cap1 ho1
    refine RL.nilCheck rfl rfl rfl rfl ?_
    refine RL.fieldAddr fa_175_0 rfl rfl rfl rfl ?_
    refine RL.store (vs := [_]) Try.sizeOf34 rfl rfl rfl rfl rfl rfl rfl rfl rfl (by repeat (first | exact Upd.here | apply Upd.there)) ?_
    refine RL.nil ?_
    refine NQ.block ?_
    refine NQ.seq ?_
    refine CW.only (.cons (k := 0) rfl (.cons (k := 7) rfl (.cons (k := 8) rfl (.cons (k := 9) rfl .nil)))) ?_
    refine CW.region (ef := []) (bk := []) ?_
    refine RL.binX rfl rfl rfl rfl rfl rfl (wrapV_i64 (by omega) (by omega)) ?_
    refine RL.move rfl rfl rfl rfl ?_
    refine RL.nil ?_
    -- STOP: round; todo top: ["N"]
    rw [own_is (ob := ob1) (n' := (m ++ (l.take (i + 1)).flatMap be4).length) (xs' := bytes (m ++ (l.take (i + 1)).flatMap be4)) hl2 (by rw [hs, ← List.append_assoc]; exact List.map_append.symm), hl2]
    exact NQ.round (g := (i, ob', c')) (i + 1, ob1, cap1) hlt (by show l.length - (i + 1) < l.length - i; omega) (.cons rfl (.cons rfl (.cons rfl (.cons rfl .nil)))) (fun z h => h.rea (fun _ h => h) (by repeat (first | exact Rea.nil | (apply Rea.cons; (solve | (repeat (first | exact Del.here | apply Del.there)))))))
  ·
    refine CW.exit ?_
    refine XQ.seq ?_
    refine XQ.seq ?_
    refine XQ.hit ?_
    -- STOP: end; todo top: ["N"]
    have hik : i = l.length := by simp at hlt; omega
    subst hik
    rw [List.take_length]
    exact NQ.post (res0 rfl) (.keep (.keep .nil)) ⟨rfl, ob', c', rfl⟩
theorem wfix_any (w : Nat) (ob : Option Nat) (p : Option Addr) (cap n c k : Nat) (m : List B8) (l : List Int) (hn : m.length = n) (hk : l.length = k) (hk2 : k ≤ 8) (hb : n ≤ 1000000000) (hl : ∀ x ∈ l, -9223372036854775808 ≤ x ∧ x ≤ 9223372036854775807) :
    Spc Try.prog 130 #[.pointer (some ⟨w, 0, none⟩), .slice p k c] [sls p 1 k (ints64 l)] [wrt w ob n cap, own ob cap 5 1 n (bytes m)] (WrR w (m ++ l.flatMap be8')) := by
  subst hn
  subst hk
  unfold wrt
  refine Spc.enter Try.func130 rfl rfl rfl (fun w0 hw0 => ?_)
  refine CW.seq ?_
  refine CW.region (ef := []) (bk := []) ?_
  refine RL.move rfl rfl rfl rfl ?_
  refine RL.lenS Try.runUnderlying248 rfl rfl rfl rfl ?_
  refine RL.move rfl rfl rfl rfl ?_
  refine RL.nil ?_
  refine NQ.seq ?_
  refine CW.block ?_
  -- STOP: loop; todo top: ["code", ["loop", ["seq", ["region", 1, [{"d": 10, "op": ["binOp", "Go.BinOp.lss", 3, ["t", 9], ["t", 8], 3], "ty": 0, "pos": "kind.go:73", "after": [], "guard": null}], false], ["seq", ["cond", ["t",
  refine CW.loop (γ := Nat × Option Nat × Nat) (fun g => g.1 ≤ l.length) (fun g => [(0, .pointer (some ⟨w, 0, none⟩)), (7, .slice p l.length c), (8, .int .i64 (l.length : Int)), (9, .int .i64 (g.1 : Int))]) (fun _ => [sls p 1 l.length (ints64 l)])
    (fun g => [cel w [slO g.2.1 (m ++ (l.take g.1).flatMap be8').length g.2.2] 175, own g.2.1 g.2.2 5 1 (m ++ (l.take g.1).flatMap be8').length (bytes (m ++ (l.take g.1).flatMap be8'))]) (fun g => l.length - g.1) (0, ob, cap) (by simp)
    (.cons rfl (.cons rfl (.cons rfl (.cons rfl .nil)))) (fun w h => by simpa using h) ?_
  rintro ⟨i, ob', c'⟩ hi
  dsimp only at hi ⊢
  refine CW.fact (p := p = none → l.length = 0) (fun w hC e => sls_nil (hC.s.i _ (List.Mem.head _)) e) (fun hpp => ?_)
  refine CW.seq ?_
  refine CW.region (ef := []) (bk := []) ?_
  refine RL.bin rfl rfl rfl rfl rfl rfl ?_
  refine RL.nil ?_
  refine NQ.seq ?_
  refine CW.seq ?_
  -- STOP: if; todo top: ["code", ["cond", ["t", 10], ["skip"], ["exit", 0]]]
  refine CW.cond rfl (fun hlt => ?_) (fun hlt => ?_)
  ·
    refine CW.skip ?_
    refine NQ.seq ?_
    refine CW.seq ?_
    refine CW.block ?_
    refine CW.seq ?_
    refine CW.region (ef := []) (bk := []) ?_
    -- STOP: op; op 0: d=11 ["indexAddr", 248, ["t", 7], ["t", 9]] guard=None (kind.go:73)
    have hlt : i < l.length := by simp at hlt; omega
    have hxb := hl _ (List.getElem_mem hlt)
    have hv : (ints64 l)[i * 1]? = some (.int .i64 l[i]) := by simp [ints64, hlt]
    have hs : (l.take (i + 1)).flatMap be8' = (l.take i).flatMap be8' ++ be8' l[i] := by rw [List.take_succ_eq_append_getElem hlt, List.flatMap_append]; simp
    generalize l[i] = x at hv hs hxb
    have hlm : (m ++ (l.take i).flatMap be8').length ≤ 1000000100 := by rw [List.length_append, length_flat (n := 8) (fun a _ => be8'_length a), List.length_take]; omega
    have hl2 : (m ++ (l.take i).flatMap be8').length + 8 = (m ++ (l.take (i + 1)).flatMap be8').length := by rw [hs, ← List.append_assoc]; generalize m ++ (l.take i).flatMap be8' = y; rw [List.length_append, be8'_length]
    obtain ⟨a, rfl⟩ : ∃ a, p = some a := by
      cases p with
      | none => exact absurd (hpp rfl) (by omega)
      | some a => exact ⟨a, rfl⟩
    refine RL.idx (j := i) Try.runUnderlying248 Try.sizeOf24 rfl rfl rfl rfl rfl rfl hlt ?_
    refine RL.load Try.isAgg24 rfl rfl rfl rfl (by first | assumption | (apply Rd.get; (solve | (repeat (first | exact List.Mem.head _ | apply List.Mem.tail))); assumption) | (apply Rd.getS; (solve | (repeat (first | exact List.Mem.head _ | apply List.Mem.tail))); assumption) | (apply Rd.getO; (solve | (repeat (first | exact List.Mem.head _ | apply List.Mem.tail))); assumption) | (apply Rd.getI; (solve | (repeat (first | exact List.Mem.head _ | apply List.Mem.tail))); assumption) | (apply Rd.cel; (solve | (repeat (first | exact List.Mem.head _ | apply List.Mem.tail))); exact rfl) | (apply Rd.celI; (solve | (repeat (first | exact List.Mem.head _ | apply List.Mem.tail))); exact rfl)) ?_
    refine RL.assign rfl rfl rfl rfl ?_
    refine RL.nil ?_
    refine NQ.seq ?_
    refine CW.seq ?_
    refine CW.region (ef := [2, 3]) (bk := [3]) ?_
    refine RL.move rfl rfl rfl rfl ?_
    refine RL.callv (sputfix_any x hxb) Try.call174 rfl rfl rfl rfl (by repeat (first | exact Lend.nil | (refine Lend.inI ?_ ?_; (solve | (repeat (first | exact List.Mem.head _ | apply List.Mem.tail)))) | (refine Lend.inH ?_ ?_; (solve | (repeat (first | exact List.Mem.head _ | apply List.Mem.tail)))))) ?_
    refine RL.alloc Try.zeroValue324 rfl rfl rfl rfl rfl ?_
    intro b1
    refine RL.storeW Try.sizeOf324 rfl rfl rfl rfl rfl rfl rfl (by first | rfl | exact ones_map one8 _ | exact ones_map (fun _ => rfl) _) (by repeat (first | exact Upd.here | apply Upd.there)) (by first | rfl | assumption | (simp only [List.length_map]; assumption) | (simp only [List.length_map, List.length_replicate]; done) | (simp; done)) (by first | rfl | assumption | (simp only [List.length_map]; assumption) | (simp only [List.length_map, List.length_replicate]; done) | (simp; done)) ?_
    refine RL.nil ?_
    refine NQ.seq ?_
    refine CW.only (.cons (k := 0) rfl (.cons (k := 6) rfl (.cons (k := 7) rfl (.cons (k := 8) rfl (.cons (k := 9) rfl .nil))))) ?_
    refine CW.regionD (Sq.of [0, 1, 2, 3, 4, 5, 6, 7, 8, 9]) [6, 9] [6, 9] [0, 1, 2, 3, 5, 7, 8] mixed (by kernel_rfl) ?_
    refine RL.move rfl rfl rfl rfl ?_
    refine RL.move rfl rfl rfl rfl ?_
    refine RL.nilCheck rfl rfl rfl rfl ?_
    refine RL.fieldAddr fa_175_0 rfl rfl rfl rfl ?_
    refine RL.load Try.isAgg34 rfl rfl rfl rfl (by first | assumption | (apply Rd.get; (solve | (repeat (first | exact List.Mem.head _ | apply List.Mem.tail))); assumption) | (apply Rd.getS; (solve | (repeat (first | exact List.Mem.head _ | apply List.Mem.tail))); assumption) | (apply Rd.getO; (solve | (repeat (first | exact List.Mem.head _ | apply List.Mem.tail))); assumption) | (apply Rd.getI; (solve | (repeat (first | exact List.Mem.head _ | apply List.Mem.tail))); assumption) | (apply Rd.cel; (solve | (repeat (first | exact List.Mem.head _ | apply List.Mem.tail))); exact rfl) | (apply Rd.celI; (solve | (repeat (first | exact List.Mem.head _ | apply List.Mem.tail))); exact rfl)) ?_
    refine RL.sliceAll Try.runUnderlying324 Try.sizeOf5 (by decide) rfl rfl rfl rfl ?_
    refine RL.appendA el_34 rfl rfl rfl rfl rfl rfl rfl (by first | exact ⟨(.take (Pick.none _)), rfl⟩ | exact ⟨(.leave (.take (Pick.none _))), rfl⟩ | exact ⟨(.leave (.leave (.take (Pick.none _)))), rfl⟩ | exact ⟨(.leave (.leave (.leave (.take (Pick.none _))))), rfl⟩ | exact ⟨(.leave (.leave (.leave (.leave (.take (Pick.none _)))))), rfl⟩ | exact ⟨(.leave (.leave (.leave (.leave (.leave (.take (Pick.none _))))))), rfl⟩ | exact ⟨(.leave (.leave (.leave (.leave (.leave (.leave (.take (Pick.none _)))))))), rfl⟩ | exact ⟨(.leave (.leave (.leave (.leave (.leave (.leave (.leave (.take (Pick.none _))))))))), rfl⟩ | exact ⟨(.leave (.leave (.leave (.leave (.leave (.leave (.leave (.leave (.take (Pick.none _)))))))))), rfl⟩ | exact ⟨(.leave (.leave (.leave (.leave (.leave (.leave (.leave (.leave (.leave (.take (Pick.none _))))))))))), rfl⟩) (by first | (exact Src.cel (by (solve | (repeat (first | exact List.Mem.head _ | apply List.Mem.tail)))) (by first | rfl | assumption | (simp only [List.length_map]; assumption) | (simp only [List.length_map, List.length_replicate]; done) | (simp; done))) | (exact Src.ownS (by (solve | (repeat (first | exact List.Mem.head _ | apply List.Mem.tail))))) | (exact Src.own (by (solve | (repeat (first | exact List.Mem.head _ | apply List.Mem.tail))))) | (exact Src.sls (by (solve | (repeat (first | exact List.Mem.head _ | apply List.Mem.tail)))))) (by first | exact one_map one8 _ | exact ones_spec rfl | exact one_map (fun _ => rfl) _ | (intro u hu; simp at hu; simp [hu, Value.oneCell'])) (by first | omega | (simp only [maxLen]; omega)) (by first | omega | (simp only [maxLen]; omega)) ?_
    intro ob1 cap1 ho1
    refine RL.nilCheck rfl rfl rfl rfl ?_
    refine RL.fieldAddr fa_175_0 rfl rfl rfl rfl ?_
    refine RL.store (vs := [_]) Try.sizeOf34 rfl rfl rfl rfl rfl rfl rfl rfl rfl (by repeat (first | exact Upd.here | apply Upd.there)) ?_
    refine RL.nil ?_
    refine NQ.block ?_
    refine NQ.seq ?_
    refine CW.only (.cons (k := 0) rfl (.cons (k := 7) rfl (.cons (k := 8) rfl (.cons (k := 9) rfl .nil)))) ?_
    refine CW.region (ef := []) (bk := []) ?_
    refine RL.binX rfl rfl rfl rfl rfl rfl (wrapV_i64 (by omega) (by omega)) ?_
    refine RL.move rfl rfl rfl rfl ?_
    refine RL.nil ?_
    -- STOP: round; todo top: ["N"]
    rw [own_is (ob := ob1) (n' := (m ++ (l.take (i + 1)).flatMap be8').length) (xs' := bytes (m ++ (l.take (i + 1)).flatMap be8')) hl2 (by rw [hs, ← List.append_assoc]; exact List.map_append.symm), hl2]
    exact NQ.round (g := (i, ob', c')) (i + 1, ob1, cap1) hlt (by show l.length - (i + 1) < l.length - i; omega) (.cons rfl (.cons rfl (.cons rfl (.cons rfl .nil)))) (fun z h => h.rea (fun _ h => h) (by repeat (first | exact Rea.nil | (apply Rea.cons; (solve | (repeat (first | exact Del.here | apply Del.there)))))))
  ·
    refine CW.exit ?_
    refine XQ.seq ?_
    refine XQ.seq ?_
    refine XQ.hit ?_
    -- STOP: end; todo top: ["N"]
    have hik : i = l.length := by simp at hlt; omega
    subst hik
    rw [List.take_length]
    exact NQ.post (res0 rfl) (.keep (.keep .nil)) ⟨rfl, ob', c', rfl⟩

/-- All numbers are of their kinds. -/
structure Rdg.Ok (r : Rdg) : Prop where
  kind : wfk .i64 r.kind
  g0 : wfk .i32 r.g0
  g1 : wfk .i32 r.g1
  g2 : wfk .i32 r.g2
  a0 : wfk .i32 r.a0
  a1 : wfk .i32 r.a1
  a2 : wfk .i32 r.a2
  height : wfk .i64 r.height
  heading : wfk .u32 r.heading
  speed : wfk .i32 r.speed
  steps : wfk .u32 r.steps
  interval : wfk .u32 r.interval
  p0 : wfk .i64 r.p0
  p1 : wfk .i64 r.p1
  p2 : wfk .i64 r.p2
  tick : wfk .u64 r.tick
  epoch : wfk .u32 r.epoch
  bound : wfk .i64 r.bound
  flags : wfk .u32 r.flags
  fails : wfk .u16 r.fails
  counter : wfk .u64 r.counter
theorem wf_i64 {n : Int} (h : wfk .i64 n) : -9223372036854775808 ≤ n ∧ n ≤ 9223372036854775807 := by
  have := wfk_bounds h
  simpa [IntKind.min, IntKind.max, IntKind.signed, IntKind.bits] using this
theorem wf_i32 {n : Int} (h : wfk .i32 n) : -9223372036854775808 ≤ n ∧ n ≤ 9223372036854775807 := by
  have := wfk_bounds h
  simp [IntKind.min, IntKind.max, IntKind.signed, IntKind.bits] at this
  omega
theorem wf_u64 {n : Int} (h : wfk .u64 n) : n = (n.toNat : Int) ∧ n.toNat < 18446744073709551616 := by
  have := wfk_bounds h
  simp [IntKind.min, IntKind.max, IntKind.signed, IntKind.bits] at this
  omega
def keyL (k : Nat → B8) : List B8 := [k 0, k 1, k 2, k 3, k 4, k 5, k 6, k 7, k 8, k 9, k 10, k 11, k 12, k 13, k 14, k 15, k 16, k 17, k 18, k 19, k 20, k 21, k 22, k 23, k 24, k 25, k 26, k 27, k 28, k 29, k 30, k 31]
/-- A number as it is written. -/
def w64 (n : Int) : Nat := (IntKind.u64.wrap n).toNat
theorem w64_lt (n : Int) : w64 n < 18446744073709551616 := wrap_u64_lt n
theorem w64_eq (n : Int) : (w64 n : Int) = IntKind.u64.wrap n := wrap_u64_nat n
theorem beN_byte (b : B8) : beN 1 (w64 (b.toNat : Int)) = [b] := by
  have hb := b.isLt
  have e : w64 (b.toNat : Int) = b.toNat := by
    unfold w64; rw [u64_id _ (by omega)]; simp
  rw [e]; simp [beN]
def bodyR (r : Rdg) : List B8 :=
  if r.kind = 1 then [r.g0, r.g1, r.g2].flatMap be4 ++ [r.a0, r.a1, r.a2].flatMap be4
  else if r.kind = 2 then be8' r.height
  else if r.kind = 3 then beN 4 (w64 r.heading)
  else if r.kind = 4 then be4 r.speed ++ beN 4 (w64 r.steps)
  else if r.kind = 5 then beN 4 (w64 r.interval) ++ [r.seq] ++ [r.p0, r.p1, r.p2].flatMap be8'
  else if r.kind = 6 then beN 4 (w64 r.interval) ++ keyL r.key
  else if r.kind = 7 then beN 8 r.tick.toNat
  else if r.kind = 8 then [r.mode]
  else if r.kind = 10 then beN 4 (w64 r.epoch)
  else if r.kind = 12 then [r.source]
  else if r.kind = 13 then [r.mode] ++ [r.p0, r.p1, r.p2].flatMap be8' ++ be8' r.bound ++ beN 4 (w64 r.flags)
  else if r.kind = 14 then [r.source] ++ [r.state] ++ beN 2 (w64 r.fails) ++ beN 8 r.counter.toNat ++ beN 4 (w64 r.epoch)
  else []
theorem pre3 {v0 v1 v2 : Value} {cs : List Value} {o : Nat} (h0 : cs[o]? = some v0) (h1 : cs[o + 1]? = some v1) (h2 : cs[o + 2]? = some v2) : ∀ (j : Nat) (u : Value), [v0, v1, v2][j]? = some u → cs[o + j]? = some u := by
  intro j u h
  match j, h with
  | 0, h => rw [Nat.add_zero, h0]; exact h
  | 1, h => rw [h1]; exact h
  | 2, h => rw [h2]; exact h
  | _ + 3, h => simp at h
end Go.Proofs.Ytflpiaeffnoepaa
