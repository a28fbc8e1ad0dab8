import Derived.Test.YtflpiaeffnoepaaRdg
namespace Go.Proofs.Ytflpiaeffnoepaa
open Go.PK

theorem nat_step {l : List B8} {o i : Nat} (h : o + i < l.length) : nat l o (i + 1) = 256 * nat l o i + (bat l (o + i)).toNat := by
  have hl : i < (l.drop o).length := by rw [List.length_drop]; omega
  unfold nat
  rw [numB_take _ _ hl, List.getElem_drop]
  simp [bat, h]
theorem nat_wrap {l : List B8} {o i : Nat} (h : o + i < l.length) (h8 : i < 8) : IntKind.u64.wrap (IntKind.u64.wrap (256 * (nat l o i : Int)) + IntKind.u64.wrap ((bat l (o + i)).toNat : Int)) = (nat l o (i + 1) : Int) := by
  have hb := (bat l (o + i)).isLt
  have h1 := nat_lt l o i
  have h2 : 256 ^ i ≤ 256 ^ 7 := Nat.pow_le_pow_right (by decide) (by omega)
  rw [nat_step h]
  simp [IntKind.wrap, IntKind.bits, IntKind.signed]; omega

theorem u32_nt (l : List B8) (o : Nat) : IntKind.u32.wrap (nat l o 4 : Int) = (nat l o 4 : Int) := by
  have h := nat_lt l o 4
  simp [IntKind.wrap, IntKind.bits, IntKind.signed]; omega
theorem u16_nt (l : List B8) (o : Nat) : IntKind.u16.wrap (nat l o 2 : Int) = (nat l o 2 : Int) := by
  have h := nat_lt l o 2
  simp [IntKind.wrap, IntKind.bits, IntKind.signed]; omega
theorem spl_length57 {r : Rdg} {o : Nat} {v : Value} : (spl (Rdg.cells r) o [v]).length = 57 := by rw [spl_length]; rfl
/-- A reading of which so many numbers, bytes of the key, are there. -/
def r1 (l : List B8) (j : Nat) : Rdg := { rz 1 with g0 := if 0 < j then i32at l 0 else 0, g1 := if 1 < j then i32at l 4 else 0, g2 := if 2 < j then i32at l 8 else 0, a0 := if 0 < j then i32at l 12 else 0, a1 := if 1 < j then i32at l 16 else 0, a2 := if 2 < j then i32at l 20 else 0 }
theorem r1_step (l : List B8) : ∀ {j : Nat}, j < 3 → spl (spl (Rdg.cells (r1 l j)) (0 + 1 + j * 1) [.int .i32 (i32at l (4 * j))]) (0 + 4 + j * 1) [.int .i32 (i32at l (12 + 4 * j))] = Rdg.cells (r1 l (j + 1))
  | 0, _ => rfl
  | 1, _ => rfl
  | 2, _ => rfl
def r6 (l : List B8) (j : Nat) : Rdg := { rz 6 with interval := nat l 0 4, key := fun q => if q < j then bat l (4 + q) else 0 }
theorem r6_step (l : List B8) : ∀ {j : Nat}, j < 32 → spl (Rdg.cells (r6 l j)) (0 + 16 + j * 1) [U8 (bat l (4 + j))] = Rdg.cells (r6 l (j + 1))
  | 0, _ => rfl
  | 1, _ => rfl
  | 2, _ => rfl
  | 3, _ => rfl
  | 4, _ => rfl
  | 5, _ => rfl
  | 6, _ => rfl
  | 7, _ => rfl
  | 8, _ => rfl
  | 9, _ => rfl
  | 10, _ => rfl
  | 11, _ => rfl
  | 12, _ => rfl
  | 13, _ => rfl
  | 14, _ => rfl
  | 15, _ => rfl
  | 16, _ => rfl
  | 17, _ => rfl
  | 18, _ => rfl
  | 19, _ => rfl
  | 20, _ => rfl
  | 21, _ => rfl
  | 22, _ => rfl
  | 23, _ => rfl
  | 24, _ => rfl
  | 25, _ => rfl
  | 26, _ => rfl
  | 27, _ => rfl
  | 28, _ => rfl
  | 29, _ => rfl
  | 30, _ => rfl
  | 31, _ => rfl
  | _ + 32, h => by omega
theorem bat_v {l : List B8} {o : Nat} (h : o < l.length) : (bytes l)[o * 1]? = some (U8 (bat l o)) := by rw [Nat.mul_one, List.getElem?_map, bat_get h]; rfl

theorem rnat_any (p : Option Addr) (n c o k : Nat) (l : List B8) (hn : l.length = n) (h : o + k ≤ n) (h8 : k ≤ 8) (hb : n ≤ 1000000000) : Spc Try.prog 85 #[.slice p n c, .int .i64 (o : Int), .int .i64 (k : Int)] [sls p 1 n (bytes l)] [] (Is (.int .u64 (nat l o k : Int))) := by
  subst hn
  refine Spc.enter Try.func85 rfl rfl rfl (fun w0 hw0 => ?_)
  refine CW.seq ?_
  refine CW.region (ef := []) (bk := []) ?_
  refine RL.assign rfl rfl rfl rfl ?_
  refine RL.nil ?_
  refine NQ.seq ?_
  refine CW.seq ?_
  refine CW.region (ef := []) (bk := []) ?_
  refine RL.assign rfl rfl rfl rfl ?_
  refine RL.nil ?_
  refine NQ.seq ?_
  refine CW.seq ?_
  refine CW.seq ?_
  refine CW.region (ef := []) (bk := []) ?_
  refine RL.assign rfl rfl rfl rfl ?_
  refine RL.nil ?_
  refine NQ.seq ?_
  refine CW.block ?_
  -- STOP: loop; todo top: ["code", ["loop", ["seq", ["seq", ["region", 3, [{"d": 9, "op": ["move", ["t", 8]], "ty": 3, "pos": "ref.go:75", "after": [], "guard": null}, {"d": 10, "op": ["move", ["t", 2]], "ty": 3, "pos": "ref.g
  refine CW.loop (γ := Nat) (fun i => i ≤ k) (fun i => [(0, .slice p l.length c), (1, .int .i64 (o : Int)), (2, .int .i64 (k : Int)), (7, .int .u64 (nat l o i : Int)), (8, .int .i64 (i : Int))]) (fun _ => [sls p 1 l.length (bytes l)]) (fun _ => []) (fun i => k - i) 0 (by omega)
    (.cons rfl (.cons rfl (.cons rfl (.cons rfl (.cons rfl .nil))))) (fun w h => h) ?_
  intro i hi
  refine CW.fact (p := p = none → l.length = 0) (fun w hC e => sls_nil (hC.s.i _ (List.Mem.head _)) e) (fun hpp => ?_)
  refine CW.seq ?_
  refine CW.seq ?_
  refine CW.region (ef := []) (bk := []) ?_
  refine RL.move rfl rfl rfl rfl ?_
  refine RL.move rfl rfl rfl rfl ?_
  refine RL.bin rfl rfl rfl rfl rfl rfl ?_
  refine RL.nil ?_
  refine NQ.seq ?_
  -- STOP: if; todo top: ["code", ["cond", ["t", 11], ["skip"], ["exit", 0]]]
  refine CW.cond rfl (fun hlt => ?_) (fun hlt => ?_)
  ·
    refine CW.skip ?_
    refine NQ.seq ?_
    refine CW.seq ?_
    refine CW.block ?_
    refine CW.region (ef := []) (bk := []) ?_
    refine RL.move rfl rfl rfl rfl ?_
    refine RL.bin rfl rfl rfl rfl rfl rfl ?_
    refine RL.move rfl rfl rfl rfl ?_
    refine RL.move rfl rfl rfl rfl ?_
    refine RL.move rfl rfl rfl rfl ?_
    refine RL.binX rfl rfl rfl rfl rfl rfl (wrapV_i64 (by omega) (by omega)) ?_
    -- STOP: op; op 6: d=20 ["indexAddr", 34, ["t", 16], ["t", 19]] guard=None (ref.go:76)
    have hlt : i < k := by simp at hlt; omega
    have hv : (bytes l)[(o + i) * 1]? = some (U8 (bat l (o + i))) := by rw [Nat.mul_one, List.getElem?_map, bat_get (by omega)]; rfl
    obtain ⟨a, rfl⟩ : ∃ a, p = some a := by
      cases p with
      | none => exact absurd (hpp rfl) (by omega)
      | some a => exact ⟨a, rfl⟩
    refine RL.idx (j := o + i) Try.runUnderlying34 Try.sizeOf5 rfl rfl rfl rfl rfl (by omega) (by omega) ?_
    refine RL.load Try.isAgg5 rfl rfl rfl rfl (by first | assumption | (apply Rd.get; (solve | (repeat (first | exact List.Mem.head _ | apply List.Mem.tail))); assumption) | (apply Rd.getS; (solve | (repeat (first | exact List.Mem.head _ | apply List.Mem.tail))); assumption) | (apply Rd.getO; (solve | (repeat (first | exact List.Mem.head _ | apply List.Mem.tail))); assumption) | (apply Rd.getI; (solve | (repeat (first | exact List.Mem.head _ | apply List.Mem.tail))); assumption) | (apply Rd.cel; (solve | (repeat (first | exact List.Mem.head _ | apply List.Mem.tail))); exact rfl) | (apply Rd.celI; (solve | (repeat (first | exact List.Mem.head _ | apply List.Mem.tail))); exact rfl)) ?_
    refine RL.conv Try.runUnderlying5 Try.runUnderlying30 rfl rfl rfl rfl ?_
    refine RL.bin rfl rfl rfl rfl rfl rfl ?_
    refine RL.assign rfl rfl rfl rfl ?_
    refine RL.nil ?_
    refine NQ.block ?_
    refine NQ.seq ?_
    refine CW.only (.cons (k := 0) rfl (.cons (k := 1) rfl (.cons (k := 2) rfl (.cons (k := 7) rfl (.cons (k := 8) rfl .nil))))) ?_
    refine CW.region (ef := []) (bk := []) ?_
    refine RL.move rfl rfl rfl rfl ?_
    refine RL.binX rfl rfl rfl rfl rfl rfl (wrapV_i64 (by omega) (by omega)) ?_
    refine RL.assign rfl rfl rfl rfl ?_
    refine RL.nil ?_
    -- STOP: round; todo top: ["N"]
    rw [nat_wrap (by omega) (by omega)]
    exact NQ.round (g := i) (i + 1) hlt (by omega) (.cons rfl (.cons rfl (.cons rfl (.cons rfl (.cons rfl .nil))))) (fun w h => h)
  ·
    refine CW.exit ?_
    refine XQ.seq ?_
    refine XQ.seq ?_
    refine XQ.hit ?_
    refine NQ.seq ?_
    refine CW.only (.cons (k := 7) rfl .nil) ?_
    refine CW.seq ?_
    refine CW.region (ef := []) (bk := []) ?_
    refine RL.move rfl rfl rfl rfl ?_
    refine RL.assign rfl rfl rfl rfl ?_
    refine RL.nil ?_
    refine NQ.seq ?_
    refine CW.ret ?_
    -- STOP: ret; end
    have hik : i = k := by simp at hlt; omega
    subst hik
    exact RQ.post (res1 rfl rfl) (Split.none _) ⟨rfl, rfl, rfl⟩
end Go.Proofs.Ytflpiaeffnoepaa
