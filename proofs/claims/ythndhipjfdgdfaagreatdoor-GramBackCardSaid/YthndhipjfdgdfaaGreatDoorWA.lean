import Derived.Test.YthndhipjfdgdfaaGreatDoorGX
import Derived.Test.YthndhipjfdgdfaaGreatDoorGA
import Derived.Test.YthndhipjfdgdfaaGreatDoorFacts
import Derived.Test.YthndhipjfdgdfaaGreatDoorMA
import Derived.WideLaws
import Derived.Test.YthndhipjfdgdfaaGreatDoorUD
set_option linter.unusedVariables false
set_option linter.unusedSimpArgs false
namespace Go.Proofs.YthndhipjfdgdfaaGreatDoor
open Go.PK
/-! ### A line's words -/
abbrev Wd := Nat × Bool
abbrev strV (a : Tx) : Value := .string (txt a)
/-- The words that are not taken yet. -/
def wsl (p : Addr) (n k : Nat) : Value := .slice (some (p.add (min k (n - 1)))) (n - k) (n - k)
abbrev wsI (p : Addr) (n : Nat) (ws : List Tx) : It := sls (some p) 1 n (ws.map strV)
abbrev wdI (b : Nat) (p : Addr) (n : Nat) (x : Wd) : It := cel b [wsl p n x.1, .bool x.2] 177
def nxW (ws : List Tx) (x : Wd) : Tx := ws.getD x.1 []
def tlW (ws : List Tx) (x : Wd) : Wd := (min (x.1 + 1) ws.length, x.2 && decide (x.1 < ws.length))
def nW (ws : List Tx) (x : Wd) : Wd := (min (x.1 + 1) ws.length, x.2 && (numT (nxW ws x)).isSome)
def bW (ws : List Tx) (x : Wd) : Wd := (min (x.1 + 1) ws.length, x.2 && (bareT (nxW ws x)).isSome)
def kW (ws : List Tx) (x : Wd) : Wd := (min (x.1 + 1) ws.length, x.2 && (keyT (nxW ws x)).isSome)
theorem nxW_nil {ws : List Tx} {x : Wd} (h : ¬ x.1 < ws.length) : nxW ws x = [] := by
  rw [nxW, List.getD_eq_getElem?_getD, List.getElem?_eq_none (by omega)]; rfl
theorem tlW_le {ws : List Tx} {x : Wd} {n : Nat} (hn : ws.length = n) : (tlW ws x).1 ≤ n := by rw [← hn]; exact Nat.min_le_right _ _
theorem nW_le {ws : List Tx} {x : Wd} {n : Nat} (hn : ws.length = n) : (nW ws x).1 ≤ n := by rw [← hn]; exact Nat.min_le_right _ _
theorem wsl_step (p : Addr) {n k : Nat} (h : k < n) : (Value.slice (if n - k = 1 then some (p.add (min k (n - 1))) else (some (p.add (min k (n - 1)))).map (·.add (1 * 1))) (n - k - 1) (n - k - 1)) = wsl p n (min (k + 1) n) := by
  have h2 : min (k + 1) n = k + 1 := by omega
  rw [wsl, h2, Nat.sub_sub]
  by_cases h1 : n - k = 1
  · rw [if_pos h1, show min k (n - 1) = min (k + 1) (n - 1) by omega]
  · rw [if_neg h1, Option.map_some, PK.add_add, show min k (n - 1) + 1 * 1 = min (k + 1) (n - 1) by omega]
/-- What a word gives, and what is left. -/
def WdR (b : Nat) (p : Addr) (n : Nat) (v : Value) (x : Wd) : Value → List It → List It → Prop := fun v' I' H' => v' = v ∧ I' = [] ∧ H' = [wdI b p n x]
/-- Words are not too long. -/
def WLen (ws : List Tx) : Prop := ∀ a ∈ ws, a.length ≤ 1000000
theorem WLen.nx {ws : List Tx} (h : WLen ws) (x : Wd) : (nxW ws x).length ≤ 1000000 := by
  by_cases hx : x.1 < ws.length
  · rw [nxW, List.getD_eq_getElem?_getD, List.getElem?_eq_getElem hx]; exact h _ (List.getElem_mem hx)
  · rw [nxW_nil hx]; exact Nat.zero_le _
theorem next_any (b : Nat) (p : Addr) (n : Nat) (ws : List Tx) (x : Wd) (hn : ws.length = n) (h1 : 1 ≤ n) (hx : x.1 ≤ n) (hb : n ≤ 1000000) :
    Spc Tryz.prog 77 #[.pointer (some ⟨b, 0, none⟩)] [wsI p n ws] [wdI b p n x] (WdR b p n (strV (nxW ws x)) (tlW ws x)) := by
  obtain ⟨k, g⟩ := x
  have hx : k ≤ n := hx
  show Spc _ _ _ [wsI p n ws] [cel b [.slice (some (p.add (min k (n - 1)))) (n - k) (n - k), .bool g] 177] _
  refine Spc.enter Tryz.func77 rfl rfl rfl (fun w0 hw0 => ?_)
  refine CW.seq (CW.rg (RL.p rfl (RL.nil (NQ.seq (CW.seq (CW.seq (CW.rg (RL.p rfl (RL.p rfl (RL.fieldAddr fa_177_0 rfl rfl rfl rfl (RL.loadq Tryz.isAgg62 rfl rfl rfl rfl ?_)))))))))))
  refine RL.lenS Tryz.runUnderlying62 rfl rfl rfl rfl (RL.p rfl (RL.nil (NQ.seq ?_)))
  refine CW.cond rfl (fun h => ?_) (fun h => ?_)
  ·
    refine CW.seq (CW.region (ef := [3]) (bk := [3]) (RL.p rfl (RL.p rfl (RL.fieldAddr fa_177_1 rfl rfl rfl rfl (RL.store (vs := [_]) Tryz.sizeOf4 rfl rfl rfl rfl rfl rfl rfl rfl rfl (by repeat (first | exact Upd.here | apply Upd.there)) ?_)))))
    refine RL.nil (NQ.seq (CW.ok [0] rfl (CW.seq (CW.rg (RL.p rfl (RL.nil (NQ.seq (CW.ret (RQ.seq ?_)))))))))
    have h' : ¬ k < ws.length := by simp at h; omega
    refine RQ.post (res1 rfl rfl) (.keep .nil) ⟨?_, rfl, ?_⟩
    · rw [nxW_nil h']; rfl
    · rw [tlW, wdI, wsl, hn, show min (k + 1) n = k by omega]
      simp only [show decide (k < n) = false by simp; omega, Bool.and_false]
      rfl
  ·
    have h' : k < n := by simp at h; omega
    have hv : (ws.map strV)[min k (n - 1) + 0 * 1]? = some (strV (nxW ws (k, g))) := by
      rw [show min k (n - 1) + 0 * 1 = k by omega, List.getElem?_map, List.getElem?_eq_getElem (by omega), nxW, List.getD_eq_getElem?_getD, List.getElem?_eq_getElem (by omega)]; rfl
    refine CW.skip (NQ.seq (CW.ok [0] rfl (CW.seq (CW.rg (RL.p rfl (RL.p rfl (RL.fieldAddr fa_177_0 rfl rfl rfl rfl (RL.loadq Tryz.isAgg62 rfl rfl rfl rfl ?_))))))))
    refine RL.idxS (j := 0) Tryz.runUnderlying62 Tryz.sizeOf9 rfl rfl rfl rfl rfl rfl (by omega) ?_
    refine RL.load Tryz.isAgg9 rfl rfl rfl rfl (Rd.getS (by repeat (first | exact List.Mem.head _ | apply List.Mem.tail)) hv) ?_
    refine RL.p rfl (RL.nil (NQ.seq (CW.ok [0, 3] rfl (CW.seq (CW.region (ef := [8]) (bk := [8]) (RL.p rfl (RL.p rfl (RL.p rfl (RL.fieldAddr fa_177_0 rfl rfl rfl rfl (RL.loadq Tryz.isAgg62 rfl rfl rfl rfl ?_))))))))))
    refine RL.slice (lo := 1) (hi := n - k) Tryz.runUnderlying62 Tryz.sizeOf9 rfl rfl rfl rfl rfl rfl (by omega) (by omega) ?_
    rw [wsl_step p h']
    refine RL.p rfl (RL.fieldAddr fa_177_0 rfl rfl rfl rfl (RL.store (vs := [_]) Tryz.sizeOf62 rfl rfl rfl rfl rfl rfl rfl rfl rfl (by repeat (first | exact Upd.here | apply Upd.there)) ?_))
    refine RL.nil (NQ.seq (CW.ok [3] rfl (CW.seq (CW.rg (RL.p rfl (RL.p rfl (RL.nil (NQ.seq (CW.ret ?_)))))))))
    refine RQ.post (res1 rfl rfl) (.keep .nil) ⟨rfl, rfl, ?_⟩
    rw [tlW, wdI, hn]
    simp only [show decide (k < n) = true by simp; omega, Bool.and_true]
    rfl
theorem wend_any (b : Nat) (p : Addr) (n : Nat) (ws : List Tx) (x : Wd) (hx : x.1 ≤ n) (hb : n ≤ 1000000) :
    Spc Tryz.prog 81 #[.pointer (some ⟨b, 0, none⟩)] [] [wdI b p n x] (WdR b p n (.bool (x.2 && decide (x.1 = n))) x) := by
  obtain ⟨k, g⟩ := x
  have hx : k ≤ n := hx
  show Spc _ _ _ [] [cel b [.slice (some (p.add (min k (n - 1)))) (n - k) (n - k), .bool g] 177] _
  refine Spc.enter Tryz.func81 rfl rfl rfl (fun w0 hw0 => ?_)
  refine CW.seq (CW.rg (RL.p rfl (RL.nil (NQ.seq (CW.seq (CW.rg (RL.p rfl (RL.p rfl (RL.fieldAddr fa_177_1 rfl rfl rfl rfl (RL.loadq Tryz.isAgg4 rfl rfl rfl rfl ?_))))))))))
  refine RL.p rfl ?_
  apply RL.andB (d := 7) (dp := 14) (l' := (Sq.of [12])) rfl (sK [2] rfl)
  ·
    intro hb5 K5
    refine RL.p rfl (RL.p rfl (RL.fieldAddr fa_177_0 rfl rfl rfl rfl (RL.loadq Tryz.isAgg62 rfl rfl rfl rfl ?_)))
    refine RL.lenS Tryz.runUnderlying62 rfl rfl rfl rfl (RL.p rfl (RL.p rfl ?_))
    exact K5 _ (.cons rfl (sK [2] rfl))
  ·
    intro hb5 K5
    refine RL.p rfl (RL.p rfl (RL.p rfl (RL.p rfl (RL.p rfl (RL.p rfl (RL.p rfl ?_))))))
    exact K5 _ (.cons rfl (sK [2] rfl))
  refine RL.p rfl (RL.nil (NQ.seq (CW.ret ?_)))
  refine RQ.post (res1 rfl rfl) (.keep .nil) ⟨?_, rfl, rfl⟩
  congr 1
  congr 1
  rw [Bool.eq_iff_iff]
  simp
  omega
end Go.Proofs.YthndhipjfdgdfaaGreatDoor

namespace Go.Proofs.YthndhipjfdgdfaaGreatDoor
open Go.PK
/-! ### Numbers -/
theorem eql_no (x : Operand) (w : World) : (do eqGuard .eql 134 x (.const .nilIface) .nilIface .nilIface; binOp .eql 134 .nilIface .nilIface : Sem Value).run Tryz.prog w = .ok (.bool true) w := by
  have h : (eqGuard .eql 134 x (.const .nilIface) .nilIface .nilIface).run Tryz.prog w = .ok () w := by simp [eqGuard]
  rw [Sem.run_bind, h, Result.andThen_ok]
  exact run_eql_nil_nil w 134 (by kernel_rfl)
theorem eql_er (x : Operand) (t : TypeId) (q : Value) (w : World) : (do eqGuard .eql 134 x (.const .nilIface) (.iface t q) .nilIface; binOp .eql 134 (.iface t q) .nilIface : Sem Value).run Tryz.prog w = .ok (.bool false) w := by
  have h : (eqGuard .eql 134 x (.const .nilIface) (.iface t q) .nilIface).run Tryz.prog w = .ok () w := by simp [eqGuard]
  rw [Sem.run_bind, h, Result.andThen_ok]
  exact run_eql_held_nil w 134 t q (by kernel_rfl)
theorem wd_end (b : Nat) (p : Addr) (n k : Nat) {g g' : Bool} (h : g = g') : ([cel b [wsl p n k, .bool g] 177] : List It) = [wdI b p n (k, g')] := by rw [h]
theorem num_any (b : Nat) (p : Addr) (n : Nat) (ws : List Tx) (x : Wd) (hn : ws.length = n) (h1 : 1 ≤ n) (hx : x.1 ≤ n) (hb : n ≤ 1000000) (hw : WLen ws) :
    Spc Tryz.prog 114 #[.pointer (some ⟨b, 0, none⟩)] [wsI p n ws, gvI] [wdI b p n x] (WdR b p n (.int .i64 (numV (nxW ws x))) (nW ws x)) := by
  have hl := hw.nx x
  have hnil := @nxW_nil ws x
  obtain ⟨k, g⟩ := x
  dsimp only at hx hnil
  refine Spc.enter Tryz.func114 rfl rfl rfl (fun w0 hw0 => ?_)
  refine CW.seq (CW.rg (RL.p rfl (RL.nil (NQ.seq (CW.seq (CW.region (ef := [1]) (bk := [1]) (RL.p rfl (RL.callq (next_any b p n ws (k, g) hn h1 hx hb) Tryz.call77 rfl rfl rfl rfl rfl (.inr rfl) ?_))))))))
  rintro _ _ _ ⟨rfl, rfl, rfl⟩
  rw [show tlW ws (k, g) = (min (k + 1) ws.length, g && decide (k < ws.length)) from rfl]
  refine RL.p rfl (RL.nil (NQ.seq (CW.seq (CW.region (ef := [1]) (bk := [1]) (RL.p rfl (RL.callq (pi_any (nxW ws (k, g)) (by omega)) Tryz.call137 rfl rfl rfl rfl rfl (.inr rfl) ?_))))))
  rintro _ _ _ ⟨er, rfl, her, rfl, rfl⟩
  refine RL.p rfl (RL.p rfl (RL.p rfl (RL.p rfl (RL.p rfl (RL.nil (NQ.seq (CW.ok [0, 3, 4, 5] rfl (CW.seq (CW.region (ef := [11, 17]) (bk := [17]) (RL.p rfl (RL.p rfl (RL.p rfl (RL.fieldAddr fa_177_1 rfl rfl rfl rfl ?_)))))))))))))
  refine RL.loadq Tryz.isAgg4 rfl rfl rfl rfl ?_
  refine RL.p rfl ?_
  refine RL.part (d := 18) rfl (fun hg => ?_) (fun hg => ?_)
  ·
    refine RL.p rfl ?_
    have hg2 : g = true := by revert hg; cases g <;> simp
    rcases her with ⟨hok, rfl⟩ | ⟨hok, t, q, rfl⟩
    · obtain ⟨h3, h4⟩ := piB_bd hok
      refine RL.cmp rfl rfl rfl rfl rfl (fun w => eql_no _ w) ?_
      refine RL.p rfl (RL.p rfl (RL.cast (d := 22) (v' := .bool true) rfl (rfl) ?_))
      refine RL.p rfl (RL.callvq (fmt_any (numV (nxW ws (k, g))) h3 h4) Tryz.call64 rfl rfl rfl rfl ?_)
      refine RL.p rfl (RL.cmp rfl rfl rfl rfl rfl (fun w => eql_txt _ _ w) ?_)
      refine RL.p rfl (RL.p rfl (RL.fieldAddr fa_177_1 rfl rfl rfl rfl (RL.store (vs := [_]) Tryz.sizeOf4 rfl rfl rfl rfl rfl rfl rfl rfl rfl (by repeat (first | exact Upd.here | apply Upd.there)) ?_)))
      refine RL.nil (NQ.seq (CW.ok [4] rfl (CW.seq (CW.rg (RL.p rfl (RL.p rfl (RL.nil (NQ.seq (CW.ret ?_)))))))))
      exact RQ.post (res1 rfl rfl) (.keep .nil) ⟨rfl, rfl, wd_end b p n _ (by simp only [nW, bW, num_isSome, hok, Bool.true_and]; rw [hg2]; simp)⟩
    ·
      refine RL.cmp rfl rfl rfl rfl rfl (fun w => eql_er _ t _ w) ?_
      refine RL.p rfl (RL.p rfl (RL.cast (d := 22) (v' := .bool false) rfl (rfl) ?_))
      refine RL.p rfl (RL.p rfl (RL.p rfl (RL.p rfl (RL.p rfl (RL.p rfl (RL.fieldAddr fa_177_1 rfl rfl rfl rfl (RL.store (vs := [_]) Tryz.sizeOf4 rfl rfl rfl rfl rfl rfl rfl rfl rfl (by repeat (first | exact Upd.here | apply Upd.there)) ?_)))))))
      refine RL.nil (NQ.seq (CW.ok [4] rfl (CW.seq (CW.rg (RL.p rfl (RL.p rfl (RL.nil (NQ.seq (CW.ret ?_)))))))))
      exact RQ.post (res1 rfl rfl) (.keep .nil) ⟨rfl, rfl, wd_end b p n _ (by simp only [nW, bW, num_isSome, hok, Bool.false_and, Bool.and_false])⟩
  ·
    refine RL.p rfl (RL.p rfl (RL.p rfl (RL.p rfl (RL.p rfl (RL.p rfl (RL.p rfl (RL.p rfl (RL.p rfl (RL.p rfl (RL.fieldAddr fa_177_1 rfl rfl rfl rfl (RL.store (vs := [_]) Tryz.sizeOf4 rfl rfl rfl rfl rfl rfl rfl rfl rfl (by repeat (first | exact Upd.here | apply Upd.there)) ?_)))))))))))
    refine RL.nil (NQ.seq (CW.ok [4] rfl (CW.seq (CW.rg (RL.p rfl (RL.p rfl (RL.nil (NQ.seq (CW.ret ?_)))))))))
    refine RQ.post (res1 rfl rfl) (.keep .nil) ⟨rfl, rfl, wd_end b p n _ ?_⟩
    cases hg2 : g with
    | false => rfl
    | true =>
      have hk : ¬ k < ws.length := by rw [hg2] at hg; simp at hg; omega
      rw [show nxW ws (k, true) = nxW ws (k, g) by rw [hg2], hnil hk]
      rfl
theorem bare_any (b : Nat) (p : Addr) (n : Nat) (ws : List Tx) (x : Wd) (hn : ws.length = n) (h1 : 1 ≤ n) (hx : x.1 ≤ n) (hb : n ≤ 1000000) (hw : WLen ws) :
    Spc Tryz.prog 118 #[.pointer (some ⟨b, 0, none⟩)] [wsI p n ws, gvI] [wdI b p n x] (WdR b p n (.int .u64 (bareV (nxW ws x))) (bW ws x)) := by
  have hl := hw.nx x
  have hnil := @nxW_nil ws x
  obtain ⟨k, g⟩ := x
  dsimp only at hx hnil
  refine Spc.enter Tryz.func118 rfl rfl rfl (fun w0 hw0 => ?_)
  refine CW.seq (CW.rg (RL.p rfl (RL.nil (NQ.seq (CW.seq (CW.region (ef := [1]) (bk := [1]) (RL.p rfl (RL.callq (next_any b p n ws (k, g) hn h1 hx hb) Tryz.call77 rfl rfl rfl rfl rfl (.inr rfl) ?_))))))))
  rintro _ _ _ ⟨rfl, rfl, rfl⟩
  rw [show tlW ws (k, g) = (min (k + 1) ws.length, g && decide (k < ws.length)) from rfl]
  refine RL.p rfl (RL.nil (NQ.seq (CW.seq (CW.region (ef := [1]) (bk := [1]) (RL.p rfl (RL.callq (pu_any (nxW ws (k, g)) (by omega)) Tryz.call139 rfl rfl rfl rfl rfl (.inr rfl) ?_))))))
  rintro _ _ _ ⟨er, rfl, her, rfl, rfl⟩
  refine RL.p rfl (RL.p rfl (RL.p rfl (RL.p rfl (RL.p rfl (RL.nil (NQ.seq (CW.ok [0, 3, 4, 5] rfl (CW.seq (CW.region (ef := [11, 17]) (bk := [17]) (RL.p rfl (RL.p rfl (RL.p rfl (RL.fieldAddr fa_177_1 rfl rfl rfl rfl ?_)))))))))))))
  refine RL.loadq Tryz.isAgg4 rfl rfl rfl rfl ?_
  refine RL.p rfl ?_
  refine RL.part (d := 18) rfl (fun hg => ?_) (fun hg => ?_)
  ·
    refine RL.p rfl ?_
    have hg2 : g = true := by revert hg; cases g <;> simp
    rcases her with ⟨hok, rfl⟩ | ⟨hok, t, q, rfl⟩
    · have h3 := hok
      refine RL.cmp rfl rfl rfl rfl rfl (fun w => eql_no _ w) ?_
      refine RL.p rfl (RL.p rfl (RL.cast (d := 22) (v' := .bool true) rfl (rfl) ?_))
      refine RL.p rfl (RL.callvq (fmtu_any (bareV (nxW ws (k, g))) puB_bd) Tryz.call30 rfl rfl rfl rfl ?_)
      refine RL.p rfl (RL.cmp rfl rfl rfl rfl rfl (fun w => eql_txt _ _ w) ?_)
      refine RL.p rfl (RL.p rfl (RL.fieldAddr fa_177_1 rfl rfl rfl rfl (RL.store (vs := [_]) Tryz.sizeOf4 rfl rfl rfl rfl rfl rfl rfl rfl rfl (by repeat (first | exact Upd.here | apply Upd.there)) ?_)))
      refine RL.nil (NQ.seq (CW.ok [4] rfl (CW.seq (CW.rg (RL.p rfl (RL.p rfl (RL.nil (NQ.seq (CW.ret ?_)))))))))
      exact RQ.post (res1 rfl rfl) (.keep .nil) ⟨rfl, rfl, wd_end b p n _ (by simp only [nW, bW, bare_isSome, hok, Bool.true_and]; rw [hg2]; simp)⟩
    ·
      refine RL.cmp rfl rfl rfl rfl rfl (fun w => eql_er _ t _ w) ?_
      refine RL.p rfl (RL.p rfl (RL.cast (d := 22) (v' := .bool false) rfl (rfl) ?_))
      refine RL.p rfl (RL.p rfl (RL.p rfl (RL.p rfl (RL.p rfl (RL.p rfl (RL.fieldAddr fa_177_1 rfl rfl rfl rfl (RL.store (vs := [_]) Tryz.sizeOf4 rfl rfl rfl rfl rfl rfl rfl rfl rfl (by repeat (first | exact Upd.here | apply Upd.there)) ?_)))))))
      refine RL.nil (NQ.seq (CW.ok [4] rfl (CW.seq (CW.rg (RL.p rfl (RL.p rfl (RL.nil (NQ.seq (CW.ret ?_)))))))))
      exact RQ.post (res1 rfl rfl) (.keep .nil) ⟨rfl, rfl, wd_end b p n _ (by simp only [nW, bW, bare_isSome, hok, Bool.false_and, Bool.and_false])⟩
  ·
    refine RL.p rfl (RL.p rfl (RL.p rfl (RL.p rfl (RL.p rfl (RL.p rfl (RL.p rfl (RL.p rfl (RL.p rfl (RL.p rfl (RL.fieldAddr fa_177_1 rfl rfl rfl rfl (RL.store (vs := [_]) Tryz.sizeOf4 rfl rfl rfl rfl rfl rfl rfl rfl rfl (by repeat (first | exact Upd.here | apply Upd.there)) ?_)))))))))))
    refine RL.nil (NQ.seq (CW.ok [4] rfl (CW.seq (CW.rg (RL.p rfl (RL.p rfl (RL.nil (NQ.seq (CW.ret ?_)))))))))
    refine RQ.post (res1 rfl rfl) (.keep .nil) ⟨rfl, rfl, wd_end b p n _ ?_⟩
    cases hg2 : g with
    | false => rfl
    | true =>
      have hk : ¬ k < ws.length := by rw [hg2] at hg; simp at hg; omega
      rw [show nxW ws (k, true) = nxW ws (k, g) by rw [hg2], hnil hk]
      rfl
theorem fix_any (b : Nat) (p : Addr) (n : Nat) (ws : List Tx) (x : Wd) (hn : ws.length = n) (h1 : 1 ≤ n) (hx : x.1 ≤ n) (hb : n ≤ 1000000) (hw : WLen ws) :
    Spc Tryz.prog 116 #[.pointer (some ⟨b, 0, none⟩)] [wsI p n ws, gvI] [wdI b p n x] (WdR b p n (.int .i64 (numV (nxW ws x))) (nW ws x)) := by
  refine Spc.enter Tryz.func116 rfl rfl rfl (fun w0 hw0 => ?_)
  refine CW.seq (CW.rg (RL.p rfl (RL.nil (NQ.seq (CW.seq (CW.region (ef := [1]) (bk := [1]) (RL.p rfl (RL.callq (num_any b p n ws x hn h1 hx hb hw) Tryz.call114 rfl rfl rfl rfl rfl (.inr rfl) ?_))))))))
  rintro _ _ _ ⟨rfl, rfl, rfl⟩
  refine RL.p rfl (RL.nil (NQ.seq (CW.ret ?_)))
  exact RQ.post (res1 rfl rfl) (.keep .nil) ⟨rfl, rfl, rfl⟩
end Go.Proofs.YthndhipjfdgdfaaGreatDoor

namespace Go.Proofs.YthndhipjfdgdfaaGreatDoor
open Go.PK
/-! ### Keys -/
section
variable {P : Program} {L : List Oper} {ef bk : List Nat} {tq : Tq} {Q : Exit → Act → World → Prop} {N : Fm} {E : Env} {w0 : World} {S : List Nat} {I H : List It} {i : Nat} {l : Sq}
variable {d : Nat} {x y : Operand} {ty t : TypeId} {pos : String} {af : Array Edge} {g : Option (Nat × Bool)} {k : IntKind} {n : Int}
theorem RL.idxTxt {s : List B8} {j : Nat} {c : B8} (hu : ∀ w, (underlying t).run P w = .ok .string w) (ho : nth L i = some ⟨some d, .index t x y, ty, pos, af, g⟩) (hw : wants L E ⟨some d, .index t x y, ty, pos, af, g⟩ = true) (hN : Nat.blt d N.n = true)
    (hx : E.ev x = some (.string (txt s))) (hy : E.ev y = some (.int k n)) (hj : n = (j : Int)) (hc : s[j]? = some c) (h : RL P L ef bk tq Q l N ((d, U8 c) :: E) w0 S I H) : RL P L ef bk tq Q (.cons i l) N E w0 S I H := by
  obtain ⟨hl, e⟩ := List.getElem?_eq_some_iff.1 hc
  have hlt : j < (txt s).size := by rw [txt_size]; exact hl
  exact RL.indexStr hu ho hw hN hx hy hj hlt (by
    have h1 := txt_get s j hlt
    rw [e] at h1
    rw [h1]; exact h)
end
def dgX : Tx := [48#8, 49#8, 50#8, 51#8, 52#8, 53#8, 54#8, 55#8, 56#8, 57#8, 97#8, 98#8, 99#8, 100#8, 101#8, 102#8]
def hexI (c : B8) : Int := match hexd c with
  | some d => (d : Int)
  | none => -1
theorem ix_hexF : ∀ n : Fin 256, ixB (BitVec.ofFin n) dgX = hexI (BitVec.ofFin n) := by decide +kernel
theorem ix_hex (c : B8) : ixB c dgX = hexI c := ix_hexF c.toFin
theorem hexd_lt {c : B8} {d : Nat} (h : hexd c = some d) : d < 16 := by
  unfold hexd at h
  split at h
  · have := Option.some.inj h; omega
  · split at h
    · have := Option.some.inj h; omega
    · cases h
theorem hexv_lt (c : B8) : hexv c < 16 := by
  unfold hexv
  cases h : hexd c with
  | none => decide
  | some d => exact hexd_lt h
theorem hexI_ge (c : B8) : decide (hexI c ≥ 0) = (hexd c).isSome := by
  unfold hexI
  cases hexd c with
  | none => rfl
  | some d => simp
theorem hexI_max (c : B8) : max (hexI c) 0 = (hexv c : Int) := by
  unfold hexI hexv
  cases hexd c with
  | none => rfl
  | some d => simp
/-- The key after so many digits. -/
def kyS (s : Tx) (i : Nat) : List B8 := (List.range 32).map fun j => if 2 * j + 1 < i then BitVec.ofNat 8 (16 * hexv (s.getD (2 * j) 0#8) + hexv (s.getD (2 * j + 1) 0#8)) else if 2 * j < i then BitVec.ofNat 8 (hexv (s.getD (2 * j) 0#8)) else 0#8
theorem kyS_len (s : Tx) (i : Nat) : (kyS s i).length = 32 := by simp [kyS]
theorem kyS_0 (s : Tx) : kyS s 0 = List.replicate 32 0#8 := by
  rw [kyS, List.map_congr_left (g := fun _ => 0#8) (fun j _ => by rw [if_neg (by omega), if_neg (by omega)])]
  rfl
theorem kyS_64 (s : Tx) : kyS s 64 = keyB s := by
  apply List.map_congr_left
  intro j hj
  have : j < 32 := by simpa using hj
  rw [if_pos (by omega)]
theorem kyS_at {s : Tx} {i : Nat} (hi : i < 64) : (kyS s i)[i / 2]? = some (if i % 2 = 1 then BitVec.ofNat 8 (hexv (s.getD (i - 1) 0#8)) else 0#8) := by
  rw [kyS, List.getElem?_map, List.getElem?_range (by omega), Option.map_some]
  congr 1
  by_cases h : i % 2 = 1
  · rw [if_neg (by omega), if_pos (by omega), if_pos h, show 2 * (i / 2) = i - 1 by omega]
  · rw [if_neg (by omega), if_neg (by omega), if_neg h]
/-- One digit more. -/
def kyN (s : Tx) (i : Nat) : B8 := if i % 2 = 1 then BitVec.ofNat 8 (16 * hexv (s.getD (i - 1) 0#8) + hexv (s.getD i 0#8)) else BitVec.ofNat 8 (hexv (s.getD i 0#8))
theorem kyS_step {s : Tx} {i : Nat} (hi : i < 64) : spl (bytes (kyS s i)) (0 + i / 2 * 1) [U8 (kyN s i)] = bytes (kyS s (i + 1)) := by
  rw [show 0 + i / 2 * 1 = i / 2 by omega, spl_one (by rw [List.length_map, kyS_len]; omega)]
  apply List.ext_getElem?
  intro q
  by_cases hq : q < 32
  · have e1 : (bytes (kyS s (i + 1)))[q]? = some (U8 (if 2 * q + 1 < i + 1 then BitVec.ofNat 8 (16 * hexv (s.getD (2 * q) 0#8) + hexv (s.getD (2 * q + 1) 0#8)) else if 2 * q < i + 1 then BitVec.ofNat 8 (hexv (s.getD (2 * q) 0#8)) else 0#8)) := by
      show (List.map U8 (kyS _ _))[q]? = _
      rw [List.getElem?_map, kyS, List.getElem?_map, List.getElem?_range hq]; rfl
    have e0 : (bytes (kyS s i))[q]? = some (U8 (if 2 * q + 1 < i then BitVec.ofNat 8 (16 * hexv (s.getD (2 * q) 0#8) + hexv (s.getD (2 * q + 1) 0#8)) else if 2 * q < i then BitVec.ofNat 8 (hexv (s.getD (2 * q) 0#8)) else 0#8)) := by
      show (List.map U8 (kyS _ _))[q]? = _
      rw [List.getElem?_map, kyS, List.getElem?_map, List.getElem?_range hq]; rfl
    have hl : (bytes (kyS s i)).length = 32 := by rw [List.length_map, kyS_len]
    rw [e1]
    rcases Nat.lt_trichotomy q (i / 2) with h | h | h
    · rw [List.append_assoc, List.getElem?_append_left (by rw [List.length_take]; omega), List.getElem?_take, if_pos h, e0]
      congr 2
      rw [if_pos (by omega), if_pos (by omega)]
    · subst h
      rw [List.append_assoc, List.getElem?_append_right (by rw [List.length_take]; omega), List.length_take, show i / 2 - min (i / 2) (bytes (kyS s i)).length = 0 by omega]
      show some (U8 (kyN s i)) = _
      congr 2
      rw [kyN]
      by_cases hp : i % 2 = 1
      · rw [if_pos hp, if_pos (by omega), show 2 * (i / 2) = i - 1 by omega, show i - 1 + 1 = i by omega]
      · rw [if_neg hp, if_neg (by omega), if_pos (by omega), show 2 * (i / 2) = i by omega]
    · rw [List.getElem?_append_right (by simp; omega), List.getElem?_drop, show i / 2 + 1 + (q - (List.take (i / 2) (bytes (kyS s i)) ++ [U8 (kyN s i)]).length) = q by simp [hl]; omega, e0]
      congr 2
      rw [if_neg (by omega), if_neg (by omega), if_neg (by omega), if_neg (by omega)]
  · rw [List.getElem?_eq_none (by simp [kyS_len]; omega), List.getElem?_eq_none (by simp [kyS_len]; omega)]
theorem kyN_bits {s : Tx} {i : Nat} {c : B8} (hc : s[i]? = some c) : (if i % 2 = 1 then BitVec.ofNat 8 (hexv (s.getD (i - 1) 0#8)) else 0#8) <<< 4 ||| BitVec.ofNat 8 (hexv c) = kyN s i := by
  have e : s.getD i 0#8 = c := by rw [List.getD_eq_getElem?_getD, hc]; rfl
  rw [kyN, e]
  have h1 := hexv_lt c
  by_cases h : i % 2 = 1
  · rw [if_pos h, if_pos h]
    have h2 := hexv_lt (s.getD (i - 1) 0#8)
    generalize hexv (s.getD (i - 1) 0#8) = a at h2 ⊢
    generalize hexv c = b at h1 ⊢
    have key : ∀ (a b : Fin 16), BitVec.ofNat 8 a.val <<< 4 ||| BitVec.ofNat 8 b.val = BitVec.ofNat 8 (16 * a.val + b.val) := by decide +kernel
    exact key ⟨a, h2⟩ ⟨b, h1⟩
  · rw [if_neg h, if_neg h]; simp
theorem shl_u8 (a : B8) (s : Nat) : Value.int .u8 (IntKind.u8.wrap ((a.toNat : Int) * 2 ^ s)) = U8 (a <<< s) := by
  have h : (a.toNat : Int) * 2 ^ s = ((a.toNat * 2 ^ s : Nat) : Int) := by simp
  rw [U8, u8_wrap, h, BitVec.toNat_ofInt]
  congr 1
  simp [BitVec.toNat_shiftLeft, Nat.shiftLeft_eq]
  exact Int.max_eq_left (Int.emod_nonneg _ (by decide))
theorem hv_u8 (c : B8) : Value.int .u8 (IntKind.u8.wrap (hexv c : Int)) = U8 (BitVec.ofNat 8 (hexv c)) := by
  rw [U8, u8_wrap, BitVec.toNat_ofInt, BitVec.toNat_ofNat]
  congr 1
noncomputable def keyV (s : Tx) : List B8 := if s.length = 64 then keyB s else List.replicate 32 0#8
theorem key_isSome (s : Tx) : (keyT s).isSome = (decide (s.length = 64) && hexOk s) := by
  unfold keyT
  by_cases h : s.length = 64 <;> cases h2 : hexOk s <;> simp [h]
theorem keyV_len (s : Tx) : (keyV s).length = 32 := by
  unfold keyV
  split
  · simp [keyB]
  · simp
theorem hexOk_step {s : Tx} {i : Nat} {c : B8} (hc : s[i]? = some c) : hexOk (s.take (i + 1)) = (hexOk (s.take i) && (hexd c).isSome) := by
  rw [List.take_add_one, hc, hexOk, List.all_append]; simp [hexOk]
theorem key_any (b : Nat) (p : Addr) (n : Nat) (ws : List Tx) (x : Wd) (hn : ws.length = n) (h1 : 1 ≤ n) (hx : x.1 ≤ n) (hb : n ≤ 1000000) (hw : WLen ws) :
    Spc Tryz.prog 115 #[.pointer (some ⟨b, 0, none⟩)] [wsI p n ws] [wdI b p n x] (WdR b p n (.agg (bytes (keyV (nxW ws x))).toArray) (kW ws x)) := by
  have hl := hw.nx x
  have hnil := @nxW_nil ws x
  obtain ⟨k, g⟩ := x
  dsimp only at hx hnil
  refine Spc.enter Tryz.func115 rfl rfl rfl (fun w0 hw0 => ?_)
  refine CW.seq (CW.region (ef := [0]) (bk := []) (RL.alloc (cs := List.replicate 32 (U8 0#8)) Tryz.zeroValue29 rfl rfl rfl rfl rfl ?_))
  intro b1
  refine RL.nil (NQ.seq (CW.seq (CW.region (ef := [0]) (bk := []) (RL.alloc (cs := List.replicate 32 (U8 0#8)) Tryz.zeroValue29 rfl rfl rfl rfl rfl ?_))))
  intro b2
  refine RL.nil (NQ.seq (CW.seq (CW.region (ef := [1]) (bk := [1]) (RL.p rfl (RL.callq (next_any b p n ws (k, g) hn h1 hx hb) Tryz.call77 rfl rfl rfl rfl rfl (.inr rfl) ?_)))))
  rintro _ _ _ ⟨rfl, rfl, rfl⟩
  rw [show tlW ws (k, g) = (min (k + 1) ws.length, g && decide (k < ws.length)) from rfl]
  generalize hs : nxW ws (k, g) = s at hl hnil ⊢
  refine RL.p rfl (RL.nil (NQ.seq (CW.seq (CW.seq (CW.rg (RL.p rfl (RL.lenTxt Tryz.runUnderlying9 rfl rfl rfl rfl (RL.p rfl (RL.nil (NQ.seq ?_))))))))))
  refine CW.cond rfl (fun h64 => ?_) (fun h64 => ?_)
  ·
    refine CW.seq (CW.region (ef := [3]) (bk := [3]) (RL.p rfl (RL.p rfl (RL.fieldAddr fa_177_1 rfl rfl rfl rfl (RL.store (vs := [_]) Tryz.sizeOf4 rfl rfl rfl rfl rfl rfl rfl rfl rfl (by repeat (first | exact Upd.here | apply Upd.there)) ?_)))))
    refine RL.nil (NQ.seq (CW.ok [0, 2, 3, 4] rfl (CW.seq (CW.region (ef := [1]) (bk := [1]) (RL.loadW Tryz.isAgg29 Tryz.sizeOf29 rfl rfl rfl rfl (by repeat (first | exact List.Mem.head _ | apply List.Mem.tail)) (by first | rfl | assumption | (simp only [List.length_map]; assumption) | (simp only [List.length_map, List.length_replicate]; done) | (simp; done)) ?_)))))
    refine RL.storeWq Tryz.sizeOf29 rfl rfl rfl rfl rfl rfl rfl ?_
    refine RL.nil (NQ.seq (CW.ret (RQ.seq ?_)))
    have h64' : s.length ≠ 64 := by simp at h64; omega
    refine RQ.post (resW rfl rfl Tryz.isAgg29 Tryz.sizeOf29 (by repeat (first | exact List.Mem.head _ | apply List.Mem.tail)) rfl) (.keep (.drop (.drop .nil))) ⟨?_, rfl, ?_⟩
    · rw [keyV, if_neg h64']; rfl
    · rw [kW, hs, key_isSome]
      simp only [h64', decide_false, Bool.false_and, Bool.and_false]
      rfl
  ·
    have h64' : s.length = 64 := by simp at h64; omega
    refine CW.skip (NQ.seq (CW.seq (CW.seq (CW.rg (RL.p rfl (RL.lenTxt Tryz.runUnderlying9 rfl rfl rfl rfl (RL.p rfl (RL.nil (NQ.seq (CW.ok [0, 2, 3, 4, 17, 18] rfl (CW.block ?_)))))))))))
    refine CW.loop (γ := Nat) (fun i => i ≤ 64) (fun i => [(0, .pointer (some ⟨b, 0, none⟩)), (2, .pointer (some ⟨b1, 0, none⟩)), (3, .pointer (some ⟨b2, 0, none⟩)), (4, strV s), (17, .int .i64 (s.length : Int)), (18, .int .i64 (i : Int))]) (fun _ => [wsI p n ws])
      (fun i => [cel b [wsl p n (min (k + 1) ws.length), .bool ((g && decide (k < ws.length)) && hexOk (s.take i))] 177, cel b2 (bytes (kyS s i)) 29, cel b1 (List.replicate 32 (U8 0#8)) 29]) (fun i => 64 - i) 0 (by omega)
      (.cons rfl (.cons rfl (.cons rfl (.cons rfl (.cons rfl (.cons rfl .nil)))))) (fun w h => by
        rw [show hexOk (s.take 0) = true from rfl, Bool.and_true, kyS_0]
        exact h.rea (fun _ h => h) (by repeat (first | exact Rea.nil | (apply Rea.cons; (solve | (repeat (first | exact Del.here | apply Del.there))))))) ?_
    intro i hi
    have hlk := kyS_len s i
    refine CW.seq (CW.rg (RL.p rfl (RL.nil (NQ.seq (CW.seq ?_)))))
    refine CW.cond rfl (fun hlt => ?_) (fun hlt => ?_)
    · have hlt' : i < 64 := by simp at hlt; omega
      have hc : s[i]? = some (s[i]'(by omega)) := List.getElem?_eq_getElem (by omega)
      generalize s[i]'(by omega) = c at hc
      have hky : (bytes (kyS s i))[0 + i / 2 * 1]? = some (U8 (if i % 2 = 1 then BitVec.ofNat 8 (hexv (s.getD (i - 1) 0#8)) else 0#8)) := by
        show (List.map U8 (kyS s i))[_]? = _
        rw [show 0 + i / 2 * 1 = i / 2 by omega, List.getElem?_map, kyS_at hlt']; rfl
      have hdv : IntKind.i64.wrap ((i : Int).tdiv 2) = ((i / 2 : Nat) : Int) := by
        rw [Int.tdiv_eq_ediv_of_nonneg (by omega)]
        simp [IntKind.wrap, IntKind.bits, IntKind.signed]; omega
      generalize ha : (if i % 2 = 1 then BitVec.ofNat 8 (hexv (s.getD (i - 1) 0#8)) else 0#8) = a at hky
      refine CW.skip (NQ.seq (CW.seq (CW.block (CW.seq (CW.rg (RL.p rfl (RL.p rfl (RL.nil (NQ.seq (CW.seq (CW.rg (RL.p rfl (RL.p rfl ?_)))))))))))))
      refine RL.idxTxt (j := i) Tryz.runUnderlying9 rfl rfl rfl rfl rfl rfl hc (RL.callvq (ix_any dgX c) Tryz.call138 rfl rfl rfl rfl ?_)
      refine RL.p rfl (RL.nil (NQ.seq (CW.ok [0, 2, 3, 4, 5, 6, 17, 18] rfl (CW.seq (CW.region (ef := [11]) (bk := [11]) (RL.p rfl (RL.p rfl (RL.p rfl (RL.fieldAddr fa_177_1 rfl rfl rfl rfl (RL.loadq Tryz.isAgg4 rfl rfl rfl rfl ?_))))))))))
      refine RL.p rfl ?_
      apply RL.andB (d := 30) (dp := 33) (l' := (Sq.of [9, 10, 11])) rfl (sK [0, 2, 3, 4, 5, 6, 17, 18, 25] rfl)
      ·
        intro hb6 K6
        refine RL.p rfl (RL.p rfl (RL.p rfl ?_))
        exact K6 _ (.cons rfl (sK [0, 2, 3, 4, 5, 6, 17, 18, 25] rfl))
      ·
        intro hb6 K6
        refine RL.p rfl (RL.p rfl (RL.p rfl ?_))
        exact K6 _ (.cons rfl (sK [0, 2, 3, 4, 5, 6, 17, 18, 25] rfl))
      refine RL.p rfl (RL.fieldAddr fa_177_1 rfl rfl rfl rfl (RL.store (vs := [_]) Tryz.sizeOf4 rfl rfl rfl rfl rfl rfl rfl rfl rfl (by repeat (first | exact Upd.here | apply Upd.there)) ?_))
      refine RL.nil (NQ.seq (CW.region (ef := [12]) (bk := [12]) (RL.p rfl (RL.quo rfl rfl rfl rfl rfl (by decide) ?_))))
      refine RL.p rfl (RL.quo rfl rfl rfl rfl rfl (by decide) ?_)
      refine RL.idxAAt (j := i / 2) Tryz.runUnderlying29 Tryz.sizeOf5 rfl rfl rfl rfl rfl hdv (by omega) ?_
      refine RL.load Tryz.isAgg5 rfl rfl rfl rfl (Rd.get (by repeat (first | exact List.Mem.head _ | apply List.Mem.tail)) hky) ?_
      refine RL.shl 4 rfl rfl rfl rfl rfl rfl (by decide) ?_
      refine RL.cast (d := 42) (v' := U8 (a <<< 4)) rfl (shl_u8 a 4) ?_
      refine RL.p rfl (RL.max rfl rfl rfl rfl rfl (RL.cast (d := 44) (v' := .int .i64 (hexv c : Int)) rfl (by rw [ix_hex, hexI_max]) ?_))
      refine RL.conv Tryz.runUnderlying3 Tryz.runUnderlying5 rfl rfl rfl rfl (RL.cast (d := 45) (v' := U8 (BitVec.ofNat 8 (hexv c))) rfl (hv_u8 c) ?_)
      refine RL.bv8 or8 rfl rfl rfl rfl rfl (RL.cast (d := 46) (v' := U8 (kyN s i)) rfl (by rw [← ha, kyN_bits hc]) ?_)
      refine RL.idxAAt (j := i / 2) Tryz.runUnderlying29 Tryz.sizeOf5 rfl rfl rfl rfl rfl hdv (by omega) ?_
      refine RL.storeX (vs := [_]) (kyS_step hlt') Tryz.sizeOf5 rfl rfl rfl rfl rfl rfl rfl rfl (by repeat (first | exact Upd.here | apply Upd.there)) (by rw [List.length_map, hlk]; show 0 + i / 2 * 1 + 1 ≤ 32; omega) ?_
      refine RL.nil (NQ.block (NQ.seq (CW.ok [0, 2, 3, 4, 17, 18] rfl (CW.rg (RL.bx rfl (wrapV_i64 (by omega) (by omega)) ?_)))))
      refine RL.p rfl (RL.nil ?_)
      refine NQ.round (g := i) (i + 1) (by show i + 1 ≤ 64; omega) (by show 64 - (i + 1) < 64 - i; omega) (.cons rfl (.cons rfl (.cons rfl (.cons rfl (.cons rfl (.cons rfl .nil)))))) (fun w h => ?_)
      rw [hexOk_step hc, ← hexI_ge, ← ix_hex, ← Bool.and_assoc]
      exact h.rea (fun _ h => h) (by repeat (first | exact Rea.nil | (apply Rea.cons; (solve | (repeat (first | exact Del.here | apply Del.there))))))
    ·
      refine CW.exit (XQ.seq (XQ.seq (XQ.hit (NQ.seq (CW.seq (CW.region (ef := [1]) (bk := [1]) (RL.loadW Tryz.isAgg29 Tryz.sizeOf29 rfl rfl rfl rfl (by repeat (first | exact List.Mem.head _ | apply List.Mem.tail)) (by first | rfl | assumption | (simp only [List.length_map]; assumption) | (simp only [List.length_map, List.length_replicate]; done) | (simp; done)) ?_)))))))
      refine RL.storeWq Tryz.sizeOf29 rfl rfl rfl rfl rfl rfl rfl ?_
      refine RL.nil (NQ.seq (CW.ok [2] rfl (CW.ret ?_)))
      have hi' : i = 64 := by simp at hlt; omega
      subst hi'
      refine RQ.post (resW rfl rfl Tryz.isAgg29 Tryz.sizeOf29 (by repeat (first | exact List.Mem.head _ | apply List.Mem.tail)) (by rw [List.length_map, hlk])) (.keep (.drop (.drop .nil))) ⟨?_, rfl, ?_⟩
      · rw [keyV, if_pos h64', kyS_64]
      · have hk : k < ws.length := by
          rcases Nat.lt_or_ge k ws.length with h | h
          · exact h
          · have h0 := hnil (by omega)
            rw [h0] at h64'; cases h64'
        rw [kW, hs, key_isSome]
        simp only [hk, h64', decide_true, Bool.true_and, Bool.and_true]
        rw [List.take_of_length_le (by omega)]
end Go.Proofs.YthndhipjfdgdfaaGreatDoor

namespace Go.Proofs.YthndhipjfdgdfaaGreatDoor
open Go.PK
/-! ### How an aid is watched; a source -/
def nWk (ws : List Tx) : Nat → Wd → Wd
  | 0, x => x
  | i + 1, x => nW ws (nWk ws i x)
noncomputable def vW (ws : List Tx) (x : Wd) (i : Nat) : Int := numV (nxW ws (nWk ws i x))
theorem nWk_le {ws : List Tx} {x : Wd} {n : Nat} (hn : ws.length = n) (hx : x.1 ≤ n) : ∀ i, (nWk ws i x).1 ≤ n
  | 0 => hx
  | _ + 1 => nW_le hn
noncomputable def wtL (ws : List Tx) (x : Wd) (i : Nat) : List Value := (List.range 10).map fun j => .int .i64 (if j < i then vW ws x j else 0)
theorem wtL_len (ws : List Tx) (x : Wd) (i : Nat) : (wtL ws x i).length = 10 := by simp [wtL]
theorem wtL_step (ws : List Tx) (x : Wd) : ∀ {i : Nat}, i < 10 → spl (wtL ws x i) (0 + i) [.int .i64 (vW ws x i)] = wtL ws x (i + 1)
  | 0, _ => rfl
  | 1, _ => rfl
  | 2, _ => rfl
  | 3, _ => rfl
  | 4, _ => rfl
  | 5, _ => rfl
  | 6, _ => rfl
  | 7, _ => rfl
  | 8, _ => rfl
  | 9, _ => rfl
noncomputable def wtV (ws : List Tx) (x : Wd) : Wt := ⟨vW ws x 0, vW ws x 1, vW ws x 2, vW ws x 3, vW ws x 4, vW ws x 5, vW ws x 6, vW ws x 7, vW ws x 8, vW ws x 9⟩
/-- Places in a block, one behind the other. -/
def ptrs (b o : Nat) (n : Nat) : List Value := (List.range n).map fun j => .pointer (some ⟨b, o + j, none⟩)
theorem ptrs_at {b o n i : Nat} (h : i < n) : (ptrs b o n)[0 + i * 1]? = some (.pointer (some ⟨b, o + i, none⟩)) := by
  rw [show 0 + i * 1 = i by omega, ptrs, List.getElem?_map, List.getElem?_range h]; rfl
theorem gwatch_any (b : Nat) (p : Addr) (n : Nat) (ws : List Tx) (x : Wd) (hn : ws.length = n) (h1 : 1 ≤ n) (hx : x.1 ≤ n) (hb : n ≤ 1000000) (hw : WLen ws) :
    Spc Tryz.prog 117 #[.pointer (some ⟨b, 0, none⟩)] [wsI p n ws, gvI] [wdI b p n x] (WdR b p n (.agg (wtV ws x).cells.toArray) (nWk ws 10 x)) := by
  have hk := nWk_le (x := x) hn hx
  have h10 : (List.replicate 10 (Value.int .i64 0)).length = 10 := rfl
  refine Spc.enter Tryz.func117 rfl rfl rfl (fun w0 hw0 => ?_)
  refine CW.seq (CW.region (ef := [0]) (bk := []) (RL.alloc Tryz.zeroValue96 rfl rfl rfl rfl rfl ?_))
  intro b1
  refine RL.nil (NQ.seq (CW.seq (CW.region (ef := [0]) (bk := []) (RL.alloc Tryz.zeroValue96 rfl rfl rfl rfl rfl ?_))))
  intro b2
  refine RL.nil (NQ.seq (CW.seq (CW.seq (CW.region (ef := [8]) (bk := []) (RL.fieldAddr fa_96_0 rfl rfl rfl rfl (RL.fieldAddr fa_94_0 rfl rfl rfl rfl (RL.fieldAddr fa_96_0 rfl rfl rfl rfl (RL.fieldAddr fa_94_1 rfl rfl rfl rfl (RL.fieldAddr fa_96_0 rfl rfl rfl rfl (RL.fieldAddr fa_94_2 rfl rfl rfl rfl (RL.fieldAddr fa_96_1 rfl rfl rfl rfl (RL.fieldAddr fa_96_2 rfl rfl rfl rfl (RL.buildSlice [_, _, _, _, _] Tryz.runUnderlying308 Tryz.sizeOf307 Tryz.zeroValue307 rfl rfl (by decide) (by decide) rfl rfl rfl rfl rfl rfl ?_)))))))))))))
  intro b3
  refine RL.lenS Tryz.runUnderlying308 rfl rfl rfl rfl (RL.p rfl (RL.nil (NQ.seq (CW.ok [0, 2, 3, 16, 17, 18] rfl (CW.block ?_)))))
  refine CW.loop (γ := Nat) (fun i => i ≤ 5) (fun i => [(0, .pointer (some ⟨b, 0, none⟩)), (2, .pointer (some ⟨b1, 0, none⟩)), (3, .pointer (some ⟨b2, 0, none⟩)), (16, .slice (some ⟨b3, 0, none⟩) 5 5), (17, .int .i64 5), (18, .int .i64 (i : Int))]) (fun _ => [wsI p n ws, gvI])
    (fun i => [wdI b p n (nWk ws i x), cel b3 (ptrs b2 0 5) 307, cel b2 (wtL ws x i) 96, cel b1 (List.replicate 10 (.int .i64 0)) 96]) (fun i => 5 - i) 0 (by omega)
    (.cons rfl (.cons rfl (.cons rfl (.cons rfl (.cons rfl (.cons rfl .nil)))))) (fun w h => h.rea (fun _ h => h) (by repeat (first | exact Rea.nil | (apply Rea.cons; (solve | (repeat (first | exact Del.here | apply Del.there))))))) ?_
  intro i hi
  refine CW.seq (CW.rg (RL.p rfl (RL.nil (NQ.seq (CW.seq ?_)))))
  refine CW.cond rfl (fun hlt => ?_) (fun hlt => ?_)
  · have hlt' : i < 5 := by simp at hlt; omega
    have hq := ptrs_at (b := b2) (o := 0) hlt'
    refine CW.skip (NQ.seq (CW.seq (CW.block (CW.seq (CW.rg (RL.idxAt (j := i) Tryz.runUnderlying308 Tryz.sizeOf307 rfl rfl rfl rfl rfl rfl hlt' (RL.load Tryz.isAgg307 rfl rfl rfl rfl (Rd.get (by repeat (first | exact List.Mem.head _ | apply List.Mem.tail)) hq) ?_)))))))
    refine RL.p rfl (RL.nil (NQ.seq (CW.region (ef := [2, 4]) (bk := [2, 4]) (RL.p rfl (RL.p rfl (RL.callq (fix_any b p n ws (nWk ws i x) hn h1 (hk i) hb hw) Tryz.call116 rfl rfl rfl rfl rfl (.inr rfl) ?_))))))
    rintro _ _ _ ⟨rfl, rfl, rfl⟩
    refine RL.p rfl (RL.storeX (vs := [_]) (wtL_step ws x (i := i) (by omega)) Tryz.sizeOf23 rfl rfl rfl rfl rfl rfl rfl rfl (by repeat (first | exact Upd.here | apply Upd.there)) (by rw [wtL_len]; show 0 + i + 1 ≤ 10; omega) ?_)
    refine RL.nil (NQ.block (NQ.seq (CW.ok [0, 2, 3, 16, 17, 18] rfl (CW.rg (RL.bx rfl (wrapV_i64 (by omega) (by omega)) ?_)))))
    refine RL.p rfl (RL.nil ?_)
    exact NQ.round (g := i) (i + 1) (by show i + 1 ≤ 5; omega) (by show 5 - (i + 1) < 5 - i; omega) (.cons rfl (.cons rfl (.cons rfl (.cons rfl (.cons rfl (.cons rfl .nil)))))) (fun w h => h.rea (fun _ h => h) (by repeat (first | exact Rea.nil | (apply Rea.cons; (solve | (repeat (first | exact Del.here | apply Del.there)))))))
  ·
    have hi5 : i = 5 := by simp at hlt; omega
    subst hi5
    refine CW.exit (XQ.seq (XQ.seq (XQ.hit (NQ.seq (CW.seq (CW.region (ef := [1, 3, 5, 7]) (bk := [1, 3, 5, 7]) (RL.p rfl (RL.callq (num_any b p n ws (nWk ws 5 x) hn h1 (hk 5) hb hw) Tryz.call114 rfl rfl rfl rfl rfl (.inr rfl) ?_))))))))
    rintro _ _ _ ⟨rfl, rfl, rfl⟩
    refine RL.p rfl (RL.callq (fix_any b p n ws (nWk ws 6 x) hn h1 (hk 6) hb hw) Tryz.call116 rfl rfl rfl rfl rfl (.inr rfl) ?_)
    rintro _ _ _ ⟨rfl, rfl, rfl⟩
    refine RL.fieldAddr fa_96_3 rfl rfl rfl rfl (RL.storeX (vs := [_]) (wtL_step ws x (i := 5) (by omega)) Tryz.sizeOf3 rfl rfl rfl rfl rfl rfl rfl rfl (by repeat (first | exact Upd.here | apply Upd.there)) (by rw [wtL_len]; show 0 + 5 + 1 ≤ 10; decide) ?_)
    refine RL.fieldAddr fa_96_4 rfl rfl rfl rfl (RL.storeX (vs := [_]) (wtL_step ws x (i := 6) (by omega)) Tryz.sizeOf23 rfl rfl rfl rfl rfl rfl rfl rfl (by repeat (first | exact Upd.here | apply Upd.there)) (by rw [wtL_len]; show 0 + 6 + 1 ≤ 10; decide) ?_)
    refine RL.nil (NQ.seq (CW.ok [0, 2, 3] rfl (CW.seq (CW.seq (CW.region (ef := [3]) (bk := []) (RL.fieldAddr fa_96_5 rfl rfl rfl rfl (RL.fieldAddr fa_96_6 rfl rfl rfl rfl (RL.fieldAddr fa_96_7 rfl rfl rfl rfl (RL.buildSlice [_, _, _] Tryz.runUnderlying310 Tryz.sizeOf309 Tryz.zeroValue309 rfl rfl (by decide) (by decide) rfl rfl rfl rfl rfl rfl ?_)))))))))
    intro b4
    refine RL.lenS Tryz.runUnderlying310 rfl rfl rfl rfl (RL.p rfl (RL.nil (NQ.seq (CW.block ?_))))
    refine CW.loop (γ := Nat) (fun i => i ≤ 3) (fun i => [(0, .pointer (some ⟨b, 0, none⟩)), (2, .pointer (some ⟨b1, 0, none⟩)), (3, .pointer (some ⟨b2, 0, none⟩)), (36, .slice (some ⟨b4, 0, none⟩) 3 3), (37, .int .i64 3), (38, .int .i64 (i : Int))]) (fun _ => [wsI p n ws, gvI])
      (fun i => [wdI b p n (nWk ws (7 + i) x), cel b4 (ptrs b2 7 3) 309, cel b2 (wtL ws x (7 + i)) 96, cel b1 (List.replicate 10 (.int .i64 0)) 96]) (fun i => 3 - i) 0 (by omega)
      (.cons rfl (.cons rfl (.cons rfl (.cons rfl (.cons rfl (.cons rfl .nil)))))) (fun w h => h.rea (fun _ h => h) (by repeat (first | exact Rea.nil | (apply Rea.cons; (solve | (repeat (first | exact Del.here | apply Del.there))))))) ?_
    intro i hi
    refine CW.seq (CW.rg (RL.p rfl (RL.nil (NQ.seq (CW.seq ?_)))))
    refine CW.cond rfl (fun hlt => ?_) (fun hlt => ?_)
    · have hlt' : i < 3 := by simp at hlt; omega
      have hq := ptrs_at (b := b2) (o := 7) hlt'
      refine CW.skip (NQ.seq (CW.seq (CW.block (CW.seq (CW.rg (RL.idxAt (j := i) Tryz.runUnderlying310 Tryz.sizeOf309 rfl rfl rfl rfl rfl rfl hlt' (RL.load Tryz.isAgg309 rfl rfl rfl rfl (Rd.get (by repeat (first | exact List.Mem.head _ | apply List.Mem.tail)) hq) ?_)))))))
      refine RL.p rfl (RL.nil (NQ.seq (CW.region (ef := [2, 4]) (bk := [2, 4]) (RL.p rfl (RL.p rfl (RL.callq (num_any b p n ws (nWk ws (7 + i) x) hn h1 (hk _) hb hw) Tryz.call114 rfl rfl rfl rfl rfl (.inr rfl) ?_))))))
      rintro _ _ _ ⟨rfl, rfl, rfl⟩
      refine RL.p rfl (RL.storeX (vs := [_]) (show spl (wtL ws x (7 + i)) (7 + i) [_] = wtL ws x (7 + (i + 1)) by have := wtL_step ws x (i := 7 + i) (by omega); rwa [Nat.zero_add] at this) Tryz.sizeOf3 rfl rfl rfl rfl rfl rfl rfl rfl (by repeat (first | exact Upd.here | apply Upd.there)) (by rw [wtL_len]; show 7 + i + 1 ≤ 10; omega) ?_)
      refine RL.nil (NQ.block (NQ.seq (CW.ok [0, 2, 3, 36, 37, 38] rfl (CW.rg (RL.bx rfl (wrapV_i64 (by omega) (by omega)) ?_)))))
      refine RL.p rfl (RL.nil ?_)
      exact NQ.round (g := i) (i + 1) (by show i + 1 ≤ 3; omega) (by show 3 - (i + 1) < 3 - i; omega) (.cons rfl (.cons rfl (.cons rfl (.cons rfl (.cons rfl (.cons rfl .nil)))))) (fun w h => h.rea (fun _ h => h) (by repeat (first | exact Rea.nil | (apply Rea.cons; (solve | (repeat (first | exact Del.here | apply Del.there)))))))
    ·
      have hi3 : i = 3 := by simp at hlt; omega
      subst hi3
      refine CW.exit (XQ.seq (XQ.seq (XQ.hit (NQ.seq (CW.seq (CW.region (ef := [1]) (bk := [1]) (RL.loadW Tryz.isAgg96 Tryz.sizeOf96 rfl rfl rfl rfl (by repeat (first | exact List.Mem.head _ | apply List.Mem.tail)) (wtL_len _ _ _) ?_)))))))
      refine RL.storeW Tryz.sizeOf96 rfl rfl rfl rfl rfl rfl rfl rfl (by repeat (first | exact Upd.here | apply Upd.there)) rfl h10 ?_
      refine RL.nil (NQ.seq (CW.ok [2] rfl (CW.ret ?_)))
      exact RQ.post (resW rfl rfl Tryz.isAgg96 Tryz.sizeOf96 (by repeat (first | exact List.Mem.head _ | apply List.Mem.tail)) rfl) (.keep (Split.none _)) ⟨rfl, rfl, rfl⟩
end Go.Proofs.YthndhipjfdgdfaaGreatDoor

namespace Go.Proofs.YthndhipjfdgdfaaGreatDoor
open Go.PK
abbrev zWt : Wt := ⟨0, 0, 0, 0, 0, 0, 0, 0, 0, 0⟩
abbrev zRt : List B8 := List.replicate 32 0#8
noncomputable def srcV (ws : List Tx) (x : Wd) : Sr := if aidB (vW ws x 1) = true then ⟨vW ws x 0, vW ws x 1, keyV (nxW ws (nWk ws 2 x)), vW ws (kW ws (nWk ws 2 x)) 0, vW ws (kW ws (nWk ws 2 x)) 1, vW ws (kW ws (nWk ws 2 x)) 2, vW ws (kW ws (nWk ws 2 x)) 3, wtV ws (nWk ws 4 (kW ws (nWk ws 2 x)))⟩
  else ⟨vW ws x 0, vW ws x 1, keyV (nxW ws (nWk ws 2 x)), 0, 0, 0, 0, zWt⟩
noncomputable def srcW (ws : List Tx) (x : Wd) : Wd := if aidB (vW ws x 1) = true then nWk ws 10 (nWk ws 4 (kW ws (nWk ws 2 x))) else kW ws (nWk ws 2 x)
theorem set_rt {a b c d e f : Int} {t : Wt} {r r' : List B8} (h : r.length = 32) (h' : r'.length = 32) : spl (Sr.cells ⟨a, b, r, c, d, e, f, t⟩) (0 + 2) (bytes r') = Sr.cells ⟨a, b, r', c, d, e, f, t⟩ := by
  have e0 : ∀ q : List B8, Sr.cells ⟨a, b, q, c, d, e, f, t⟩ = [.int .i64 a, .int .i64 b] ++ (bytes q ++ Sr.tl ⟨a, b, r, c, d, e, f, t⟩) := fun q => rfl
  rw [e0 r, e0 r']; exact seg_spl rfl (by simp [h, h'])
theorem gaid_any (s : Sr) : Spc Tryz.prog 67 #[.agg s.cells.toArray] [] [] (Is (.bool (aidB s.kd))) := by
  refine Spc.enter Tryz.func67 rfl rfl rfl (fun w0 hw0 => ?_)
  refine CW.seq (CW.region (ef := [0]) (bk := []) (RL.box rfl rfl rfl rfl rfl rfl ?_))
  intro b1
  refine RL.p rfl (RL.nil (NQ.seq (CW.seq (CW.rg (RL.fieldAddr fa_98_1 rfl rfl rfl rfl (RL.loadq Tryz.isAgg3 rfl rfl rfl rfl ?_))))))
  refine RL.p rfl (RL.p rfl ?_)
  apply RL.andB (d := 6) (dp := 10) (l' := (Sq.of [8])) rfl (sK [2] rfl)
  ·
    intro hb4 K4
    refine RL.fieldAddr fa_98_1 rfl rfl rfl rfl (RL.loadq Tryz.isAgg3 rfl rfl rfl rfl ?_)
    refine RL.p rfl (RL.p rfl ?_)
    exact K4 _ (.cons rfl (sK [2] rfl))
  ·
    intro hb4 K4
    refine RL.p rfl (RL.p rfl (RL.p rfl (RL.p rfl ?_)))
    exact K4 _ (.cons rfl (sK [2] rfl))
  refine RL.p rfl (RL.nil (NQ.seq (CW.ret ?_)))
  exact RQ.post (res1 rfl rfl) (Split.none _) ⟨by congr 1; rw [Bool.eq_iff_iff]; simp [aidB], rfl, rfl⟩
theorem wsource_any (b : Nat) (p : Addr) (n : Nat) (ws : List Tx) (x : Wd) (hn : ws.length = n) (h1 : 1 ≤ n) (hx : x.1 ≤ n) (hb : n ≤ 1000000) (hw : WLen ws) :
    Spc Tryz.prog 78 #[.pointer (some ⟨b, 0, none⟩)] [wsI p n ws, gvI] [wdI b p n x] (WdR b p n (.agg (srcV ws x).cells.toArray) (srcW ws x)) := by
  have hk := nWk_le (x := x) hn hx
  have hkl := keyV_len (nxW ws (nWk ws 2 x))
  have hz : zRt.length = 32 := rfl
  have hlen : ∀ s : Sr, s.rt.length = 32 → s.cells.length = 48 := fun s h => sr_len h
  generalize hK : keyV (nxW ws (nWk ws 2 x)) = K at hkl
  have hx3 : (kW ws (nWk ws 2 x)).1 ≤ n := by rw [← hn]; exact Nat.min_le_right _ _
  have hk3 := nWk_le hn hx3
  have hs32 : ∀ w, (sizeOf 29).run Tryz.prog w = .ok (bytes K).length w := fun w => by rw [show (bytes K).length = 32 by rw [List.length_map, hkl]]; exact Tryz.sizeOf29 w
  refine Spc.enter Tryz.func78 rfl rfl rfl (fun w0 hw0 => ?_)
  refine CW.seq (CW.region (ef := [0]) (bk := []) (RL.alloc Tryz.zeroValue98 rfl rfl rfl rfl rfl ?_))
  intro b1
  refine RL.nil (NQ.seq (CW.seq (CW.region (ef := [1, 3, 5, 6]) (bk := [1, 3, 6]) (RL.p rfl (RL.callq (num_any b p n ws x hn h1 hx hb hw) Tryz.call114 rfl rfl rfl rfl rfl (.inr rfl) ?_)))))
  rintro _ _ _ ⟨rfl, rfl, rfl⟩
  refine RL.p rfl (RL.callq (num_any b p n ws (nWk ws 1 x) hn h1 (hk 1) hb hw) Tryz.call114 rfl rfl rfl rfl rfl (.inr rfl) ?_)
  rintro _ _ _ ⟨rfl, rfl, rfl⟩
  refine RL.buildS (Sr.cells ⟨vW ws x 0, vW ws x 1, zRt, 0, 0, 0, 0, zWt⟩) Tryz.zeroValue98 pl_98 rfl rfl rfl rfl rfl (RL.alloc Tryz.zeroValue98 rfl rfl rfl rfl rfl ?_)
  intro b2
  refine RL.storeW Tryz.sizeOf98 rfl rfl rfl rfl rfl rfl rfl (sr_ones _) (by repeat (first | exact Upd.here | apply Upd.there)) rfl rfl ?_
  refine RL.nil (NQ.seq (CW.seq (CW.region (ef := [1, 3]) (bk := [1, 3]) (RL.p rfl (RL.callq (key_any b p n ws (nWk ws 2 x) hn h1 (hk 2) hb hw) Tryz.call115 rfl rfl rfl rfl rfl (.inr rfl) ?_)))))
  rintro _ _ _ ⟨rfl, rfl, rfl⟩
  refine RL.fieldAddr fa_98_2 rfl rfl rfl rfl (RL.storeX (vs := bytes K) (set_rt hz hkl) hs32 rfl rfl rfl rfl rfl (by rw [hK]; rfl) rfl (ones_map one8 _) (by repeat (first | exact Upd.here | apply Upd.there)) (by rw [hlen _ hz, List.length_map, hkl]; decide) ?_)
  refine RL.nil (NQ.seq (CW.ok [0, 2, 3] rfl (CW.seq (CW.seq (CW.rg (RL.loadW Tryz.isAgg98 Tryz.sizeOf98 rfl rfl rfl rfl (by repeat (first | exact List.Mem.head _ | apply List.Mem.tail)) (hlen _ hkl) ?_))))))
  refine RL.callvq (gaid_any ⟨vW ws x 0, vW ws x 1, K, 0, 0, 0, 0, zWt⟩) Tryz.call67 rfl rfl rfl rfl ?_
  refine RL.nil (NQ.seq ?_)
  refine CW.cond rfl (fun ha => ?_) (fun ha => ?_)
  · have ha2 := ha
    refine CW.seq (CW.region (ef := [1, 3, 5, 7, 9, 11, 13, 15]) (bk := [1, 3, 5, 7, 9, 11, 13, 15]) (RL.p rfl (RL.callq (num_any b p n ws (nWk ws 0 (kW ws (nWk ws 2 x))) hn h1 (hk3 0) hb hw) Tryz.call114 rfl rfl rfl rfl rfl (.inr rfl) ?_)))
    rintro _ _ _ ⟨rfl, rfl, rfl⟩
    refine RL.p rfl (RL.callq (num_any b p n ws (nWk ws 1 (kW ws (nWk ws 2 x))) hn h1 (hk3 1) hb hw) Tryz.call114 rfl rfl rfl rfl rfl (.inr rfl) ?_)
    rintro _ _ _ ⟨rfl, rfl, rfl⟩
    refine RL.p rfl (RL.callq (fix_any b p n ws (nWk ws 2 (kW ws (nWk ws 2 x))) hn h1 (hk3 2) hb hw) Tryz.call116 rfl rfl rfl rfl rfl (.inr rfl) ?_)
    rintro _ _ _ ⟨rfl, rfl, rfl⟩
    refine RL.p rfl (RL.callq (num_any b p n ws (nWk ws 3 (kW ws (nWk ws 2 x))) hn h1 (hk3 3) hb hw) Tryz.call114 rfl rfl rfl rfl rfl (.inr rfl) ?_)
    rintro _ _ _ ⟨rfl, rfl, rfl⟩
    refine RL.fieldAddr fa_98_3 rfl rfl rfl rfl (RL.storeX (vs := [_]) (show spl (Sr.cells ⟨vW ws x 0, vW ws x 1, K, 0, 0, 0, 0, zWt⟩) (0 + 34) [.int .i64 (vW ws (kW ws (nWk ws 2 x)) 0)] = Sr.cells ⟨vW ws x 0, vW ws x 1, K, vW ws (kW ws (nWk ws 2 x)) 0, 0, 0, 0, zWt⟩ from set_w hkl _) Tryz.sizeOf3 rfl rfl rfl rfl rfl rfl rfl rfl (by repeat (first | exact Upd.here | apply Upd.there)) (by rw [hlen _ hkl]; show 0 + 34 + 1 ≤ 48; decide) ?_)
    refine RL.fieldAddr fa_98_4 rfl rfl rfl rfl (RL.storeX (vs := [_]) (show spl (Sr.cells ⟨vW ws x 0, vW ws x 1, K, vW ws (kW ws (nWk ws 2 x)) 0, 0, 0, 0, zWt⟩) (0 + 35) [.int .i64 (vW ws (kW ws (nWk ws 2 x)) 1)] = Sr.cells ⟨vW ws x 0, vW ws x 1, K, vW ws (kW ws (nWk ws 2 x)) 0, vW ws (kW ws (nWk ws 2 x)) 1, 0, 0, zWt⟩ from set_g hkl _) Tryz.sizeOf3 rfl rfl rfl rfl rfl rfl rfl rfl (by repeat (first | exact Upd.here | apply Upd.there)) (by rw [hlen _ hkl]; show 0 + 35 + 1 ≤ 48; decide) ?_)
    refine RL.fieldAddr fa_98_5 rfl rfl rfl rfl (RL.storeX (vs := [_]) (show spl (Sr.cells ⟨vW ws x 0, vW ws x 1, K, vW ws (kW ws (nWk ws 2 x)) 0, vW ws (kW ws (nWk ws 2 x)) 1, 0, 0, zWt⟩) (0 + 36) [.int .i64 (vW ws (kW ws (nWk ws 2 x)) 2)] = Sr.cells ⟨vW ws x 0, vW ws x 1, K, vW ws (kW ws (nWk ws 2 x)) 0, vW ws (kW ws (nWk ws 2 x)) 1, vW ws (kW ws (nWk ws 2 x)) 2, 0, zWt⟩ from set_st hkl _) Tryz.sizeOf23 rfl rfl rfl rfl rfl rfl rfl rfl (by repeat (first | exact Upd.here | apply Upd.there)) (by rw [hlen _ hkl]; show 0 + 36 + 1 ≤ 48; decide) ?_)
    refine RL.fieldAddr fa_98_6 rfl rfl rfl rfl (RL.storeX (vs := [_]) (show spl (Sr.cells ⟨vW ws x 0, vW ws x 1, K, vW ws (kW ws (nWk ws 2 x)) 0, vW ws (kW ws (nWk ws 2 x)) 1, vW ws (kW ws (nWk ws 2 x)) 2, 0, zWt⟩) (0 + 37) [.int .i64 (vW ws (kW ws (nWk ws 2 x)) 3)] = Sr.cells ⟨vW ws x 0, vW ws x 1, K, vW ws (kW ws (nWk ws 2 x)) 0, vW ws (kW ws (nWk ws 2 x)) 1, vW ws (kW ws (nWk ws 2 x)) 2, vW ws (kW ws (nWk ws 2 x)) 3, zWt⟩ from set_hz hkl _) Tryz.sizeOf3 rfl rfl rfl rfl rfl rfl rfl rfl (by repeat (first | exact Upd.here | apply Upd.there)) (by rw [hlen _ hkl]; show 0 + 37 + 1 ≤ 48; decide) ?_)
    refine RL.nil (NQ.seq (CW.ok [0, 2, 3] rfl (CW.region (ef := [1, 3]) (bk := [1, 3]) (RL.p rfl (RL.callq (gwatch_any b p n ws (nWk ws 4 (kW ws (nWk ws 2 x))) hn h1 (hk3 4) hb hw) Tryz.call117 rfl rfl rfl rfl rfl (.inr rfl) ?_)))))
    rintro _ _ _ ⟨rfl, rfl, rfl⟩
    refine RL.fieldAddr fa_98_7 rfl rfl rfl rfl (RL.storeX (vs := (wtV ws (nWk ws 4 (kW ws (nWk ws 2 x)))).cells) (show spl (Sr.cells ⟨vW ws x 0, vW ws x 1, K, vW ws (kW ws (nWk ws 2 x)) 0, vW ws (kW ws (nWk ws 2 x)) 1, vW ws (kW ws (nWk ws 2 x)) 2, vW ws (kW ws (nWk ws 2 x)) 3, zWt⟩) (0 + 38) (wtV ws (nWk ws 4 (kW ws (nWk ws 2 x)))).cells = Sr.cells ⟨vW ws x 0, vW ws x 1, K, vW ws (kW ws (nWk ws 2 x)) 0, vW ws (kW ws (nWk ws 2 x)) 1, vW ws (kW ws (nWk ws 2 x)) 2, vW ws (kW ws (nWk ws 2 x)) 3, wtV ws (nWk ws 4 (kW ws (nWk ws 2 x)))⟩ from set_wt hkl _) Tryz.sizeOf96 rfl rfl rfl rfl rfl rfl rfl rfl (by repeat (first | exact Upd.here | apply Upd.there)) (by rw [hlen _ hkl]; show 0 + 38 + 10 ≤ 48; decide) ?_)
    refine RL.nil (NQ.seq (CW.seq (CW.region (ef := [1]) (bk := [1]) (RL.loadW Tryz.isAgg98 Tryz.sizeOf98 rfl rfl rfl rfl (by repeat (first | exact List.Mem.head _ | apply List.Mem.tail)) (hlen _ hkl) ?_))))
    refine RL.storeW Tryz.sizeOf98 rfl rfl rfl rfl rfl rfl rfl (sr_ones _) (by repeat (first | exact Upd.here | apply Upd.there)) (hlen _ hkl) rfl ?_
    refine RL.nil (NQ.seq (CW.ok [2] rfl (CW.ret ?_)))
    refine RQ.post (resW rfl rfl Tryz.isAgg98 Tryz.sizeOf98 (by repeat (first | exact List.Mem.head _ | apply List.Mem.tail)) (hlen _ hkl)) (.keep (Split.none _)) ⟨?_, rfl, ?_⟩
    · rw [srcV, if_pos ha, hK]
    · rw [srcW, if_pos ha]
  ·
    refine CW.skip (NQ.seq (CW.seq (CW.region (ef := [1]) (bk := [1]) (RL.loadW Tryz.isAgg98 Tryz.sizeOf98 rfl rfl rfl rfl (by repeat (first | exact List.Mem.head _ | apply List.Mem.tail)) (hlen _ hkl) ?_))))
    refine RL.storeW Tryz.sizeOf98 rfl rfl rfl rfl rfl rfl rfl (sr_ones _) (by repeat (first | exact Upd.here | apply Upd.there)) (hlen _ hkl) rfl ?_
    refine RL.nil (NQ.seq (CW.ret ?_))
    have ha' : ¬ aidB (vW ws x 1) = true := by rw [show aidB (vW ws x 1) = false from ha]; decide
    refine RQ.post (resW rfl rfl Tryz.isAgg98 Tryz.sizeOf98 (by repeat (first | exact List.Mem.head _ | apply List.Mem.tail)) (hlen _ hkl)) (.keep (Split.none _)) ⟨?_, rfl, ?_⟩
    · rw [srcV, if_neg ha', hK]
    · rw [srcW, if_neg ha']
end Go.Proofs.YthndhipjfdgdfaaGreatDoor

namespace Go.Proofs.YthndhipjfdgdfaaGreatDoor
open Go.PK
/-! ### A zone -/
noncomputable def zlp (ws : List Tx) : Nat → Wd → List Pt → List Pt × Wd
  | 0, x, L => (L, x)
  | f + 1, x, L => if x.2 && decide (x.1 < ws.length) then zlp ws f (nW ws (nW ws x)) (L ++ [(vW ws x 0, vW ws x 1)]) else (L, x)
def zonH (ws : List Tx) (x : Wd) : Bool := decide (nxW ws x = nIn) || decide (nxW ws x = nOut)
/-- A zone's words: what it is, where they are then. -/
noncomputable def zonX (ws : List Tx) (x : Wd) : Wd := if zonH ws x = true then nWk ws 2 (tlW ws x) else ((tlW ws x).1, false)
noncomputable def zonV (ws : List Tx) (x : Wd) : Zn := ⟨decide (nxW ws x = nIn), (zlp ws (ws.length + 1) (zonX ws x) []).1, if zonH ws x = true then vW ws (tlW ws x) 0 else 0, if zonH ws x = true then vW ws (tlW ws x) 1 else 0⟩
noncomputable def zonW (ws : List Tx) (x : Wd) : Wd := (zlp ws (ws.length + 1) (zonX ws x) []).2
def ZnO (b : Nat) (p : Addr) (n : Nat) (ws : List Tx) (x : Wd) : Value → List It → List It → Prop := fun v I' H' => ∃ ob cap, v = .agg (znC (zonV ws x).keep (slO ob (zonV ws x).L.length cap) (zonV ws x).fl (zonV ws x).rf).toArray ∧ I' = [] ∧ H' = [wdI b p n (zonW ws x), own ob cap 80 2 (zonV ws x).L.length ((zonV ws x).L.flatMap Pt.cells)]
theorem wzone_any (b : Nat) (p : Addr) (n : Nat) (ws : List Tx) (x : Wd) (hn : ws.length = n) (h1 : 1 ≤ n) (hx : x.1 ≤ n) (hb : n ≤ 1000000) (hw : WLen ws) :
    Spc Tryz.prog 79 #[.pointer (some ⟨b, 0, none⟩)] [wsI p n ws, gvI] [wdI b p n x] (ZnO b p n ws x) := by
  have hx1 : (tlW ws x).1 ≤ n := tlW_le hn
  have hk := nWk_le (x := tlW ws x) hn hx1
  have hx3 : (zonX ws x).1 ≤ n := by
    unfold zonX
    split
    · exact hk 2
    · exact hx1
  refine Spc.enter Tryz.func79 rfl rfl rfl (fun w0 hw0 => ?_)
  refine CW.seq (CW.region (ef := [0]) (bk := []) (RL.alloc Tryz.zeroValue73 rfl rfl rfl rfl rfl ?_))
  intro b1
  refine RL.nil (NQ.seq (CW.seq (CW.region (ef := [0]) (bk := []) (RL.alloc Tryz.zeroValue73 rfl rfl rfl rfl rfl ?_))))
  intro b2
  refine RL.nil (NQ.seq (CW.seq (CW.seq (CW.region (ef := [1]) (bk := [1]) (RL.p rfl (RL.callq (next_any b p n ws x hn h1 hx hb) Tryz.call77 rfl rfl rfl rfl rfl (.inr rfl) ?_))))))
  rintro _ _ _ ⟨rfl, rfl, rfl⟩
  refine RL.nil (NQ.seq ?_)
  refine CW.cutG (γ := Unit) (fun _ => True) (fun _ => [(0, .pointer (some ⟨b, 0, none⟩)), (2, .pointer (some ⟨b1, 0, none⟩)), (3, .pointer (some ⟨b2, 0, none⟩))]) (fun _ => [wsI p n ws, gvI])
    (fun _ => [wdI b p n (zonX ws x), cel b2 (znC (zonV ws x).keep (.slice none 0 0) (zonV ws x).fl (zonV ws x).rf) 73, cel b1 (znC false (.slice none 0 0) 0 0) 73]) ?_ ?_
  ·
    refine CW.block (CW.seq (CW.block (CW.seq (CW.block (CW.seq (CW.block (CW.seq (CW.seq (CW.seq (CW.rg (RL.cmp rfl rfl rfl rfl rfl (fun w => eql_txt (nxW ws x) nIn w) ?_)))))))))))
    refine RL.p rfl (RL.nil (NQ.seq ?_))
    refine CW.cond rfl (fun ha => ?_) (fun ha => ?_)
    · have ha' : nxW ws x = nIn := by simpa using ha
      have hz : zonH ws x = true := by rw [zonH, ha']; rfl
      have hki : decide (nxW ws x = nIn) = true := by rw [ha']; rfl
      refine CW.exit (XQ.seq (XQ.seq (XQ.hit (NQ.seq (CW.region (ef := [1]) (bk := [1]) (RL.fieldAddr fa_73_0 rfl rfl rfl rfl (RL.storeX (vs := [_]) (show spl (znC false (.slice none 0 0) 0 0) (0 + 0) [.bool true] = znC true (.slice none 0 0) 0 0 from rfl) Tryz.sizeOf4 rfl rfl rfl rfl rfl rfl rfl rfl (by repeat (first | exact Upd.here | apply Upd.there)) (by show 0 + 0 + 1 ≤ 4; decide) ?_)))))))
      refine RL.nil (NQ.block (NQ.seq (CW.seq (CW.region (ef := [1, 3, 5, 7]) (bk := [1, 3, 5, 7]) (RL.p rfl (RL.callq (fix_any b p n ws (tlW ws x) hn h1 hx1 hb hw) Tryz.call116 rfl rfl rfl rfl rfl (.inr rfl) ?_))))))
      rintro _ _ _ ⟨rfl, rfl, rfl⟩
      refine RL.p rfl (RL.callq (fix_any b p n ws (nWk ws 1 (tlW ws x)) hn h1 (hk 1) hb hw) Tryz.call116 rfl rfl rfl rfl rfl (.inr rfl) ?_)
      rintro _ _ _ ⟨rfl, rfl, rfl⟩
      refine RL.fieldAddr fa_73_2 rfl rfl rfl rfl (RL.storeX (vs := [_]) (show spl (znC true (.slice none 0 0) 0 0) (0 + 2) [.int .i64 (vW ws (tlW ws x) 0)] = znC true (.slice none 0 0) (vW ws (tlW ws x) 0) 0 from rfl) Tryz.sizeOf23 rfl rfl rfl rfl rfl rfl rfl rfl (by repeat (first | exact Upd.here | apply Upd.there)) (by show 0 + 2 + 1 ≤ 4; decide) ?_)
      refine RL.fieldAddr fa_73_3 rfl rfl rfl rfl (RL.storeX (vs := [_]) (show spl (znC true (.slice none 0 0) (vW ws (tlW ws x) 0) 0) (0 + 3) [.int .i64 (vW ws (tlW ws x) 1)] = znC true (.slice none 0 0) (vW ws (tlW ws x) 0) (vW ws (tlW ws x) 1) from rfl) Tryz.sizeOf23 rfl rfl rfl rfl rfl rfl rfl rfl (by repeat (first | exact Upd.here | apply Upd.there)) (by show 0 + 3 + 1 ≤ 4; decide) ?_)
      refine RL.nil (NQ.seq (CW.ok [0, 2, 3] rfl (CW.exit (XQ.miss rfl (XQ.seq (XQ.hit ?_))))))
      refine NQ.midG () trivial (.cons rfl (.cons rfl (.cons rfl .nil))) (fun w h => ?_)
      rw [zonX, zonV, hz]
      dsimp only
      rw [if_pos rfl, if_pos rfl, if_pos rfl, hki]
      exact h.rea (fun _ h => h) (by repeat (first | exact Rea.nil | (apply Rea.cons; (solve | (repeat (first | exact Del.here | apply Del.there))))))
    ·
      have ha' : nxW ws x ≠ nIn := by simpa using ha
      have hki : decide (nxW ws x = nIn) = false := by simpa using ha'
      refine CW.skip (NQ.seq (CW.seq (CW.rg (RL.cmp rfl rfl rfl rfl rfl (fun w => eql_txt (nxW ws x) nOut w) ?_))))
      refine RL.p rfl (RL.nil (NQ.seq ?_))
      refine CW.cond rfl (fun ho => ?_) (fun ho => ?_)
      · have ho' : nxW ws x = nOut := by simpa using ho
        have hz : zonH ws x = true := by rw [zonH, ho']; rfl
        refine CW.exit (XQ.seq (XQ.miss rfl (XQ.seq (XQ.hit (NQ.seq (CW.ok [0, 2, 3] rfl (CW.seq (CW.region (ef := [1, 3, 5, 7]) (bk := [1, 3, 5, 7]) (RL.p rfl (RL.callq (fix_any b p n ws (tlW ws x) hn h1 hx1 hb hw) Tryz.call116 rfl rfl rfl rfl rfl (.inr rfl) ?_))))))))))
        rintro _ _ _ ⟨rfl, rfl, rfl⟩
        refine RL.p rfl (RL.callq (fix_any b p n ws (nWk ws 1 (tlW ws x)) hn h1 (hk 1) hb hw) Tryz.call116 rfl rfl rfl rfl rfl (.inr rfl) ?_)
        rintro _ _ _ ⟨rfl, rfl, rfl⟩
        refine RL.fieldAddr fa_73_2 rfl rfl rfl rfl (RL.storeX (vs := [_]) (show spl (znC false (.slice none 0 0) 0 0) (0 + 2) [.int .i64 (vW ws (tlW ws x) 0)] = znC false (.slice none 0 0) (vW ws (tlW ws x) 0) 0 from rfl) Tryz.sizeOf23 rfl rfl rfl rfl rfl rfl rfl rfl (by repeat (first | exact Upd.here | apply Upd.there)) (by show 0 + 2 + 1 ≤ 4; decide) ?_)
        refine RL.fieldAddr fa_73_3 rfl rfl rfl rfl (RL.storeX (vs := [_]) (show spl (znC false (.slice none 0 0) (vW ws (tlW ws x) 0) 0) (0 + 3) [.int .i64 (vW ws (tlW ws x) 1)] = znC false (.slice none 0 0) (vW ws (tlW ws x) 0) (vW ws (tlW ws x) 1) from rfl) Tryz.sizeOf23 rfl rfl rfl rfl rfl rfl rfl rfl (by repeat (first | exact Upd.here | apply Upd.there)) (by show 0 + 3 + 1 ≤ 4; decide) ?_)
        refine RL.nil (NQ.seq (CW.ok [0, 2, 3] rfl (CW.exit (XQ.miss rfl (XQ.seq (XQ.hit ?_))))))
        refine NQ.midG () trivial (.cons rfl (.cons rfl (.cons rfl .nil))) (fun w h => ?_)
        rw [zonX, zonV, hz]
        dsimp only
        rw [if_pos rfl, if_pos rfl, if_pos rfl, hki]
        exact h.rea (fun _ h => h) (by repeat (first | exact Rea.nil | (apply Rea.cons; (solve | (repeat (first | exact Del.here | apply Del.there))))))
      ·
        refine CW.skip (NQ.seq (CW.ok [0, 2, 3] rfl (CW.exit (XQ.miss rfl (XQ.seq (XQ.miss rfl (XQ.seq (XQ.hit (NQ.seq (CW.seq (CW.region (ef := [3]) (bk := [3]) (RL.p rfl (RL.p rfl ?_)))))))))))))
        refine RL.fieldAddr fa_177_1 rfl rfl rfl rfl (RL.store (vs := [_]) Tryz.sizeOf4 rfl rfl rfl rfl rfl rfl rfl rfl rfl (by repeat (first | exact Upd.here | apply Upd.there)) ?_)
        refine RL.nil (NQ.seq (CW.exit (XQ.hit ?_)))
        have ho' : nxW ws x ≠ nOut := by simpa using ho
        have hz : zonH ws x = false := by rw [zonH]; simp [ha', ho']
        refine NQ.midG () trivial (.cons rfl (.cons rfl (.cons rfl .nil))) (fun w h => ?_)
        rw [zonX, zonV, hz]
        dsimp only
        rw [if_neg (by decide), if_neg (by decide), if_neg (by decide), hki]
        exact h.rea (fun _ h => h) (by repeat (first | exact Rea.nil | (apply Rea.cons; (solve | (repeat (first | exact Del.here | apply Del.there))))))
  rintro - -
  generalize hZ : (zonV ws x).keep = kp
  generalize hF : (zonV ws x).fl = fl
  generalize hR : (zonV ws x).rf = rf
  have hf0 : zonV ws x = ⟨kp, (zlp ws (ws.length + 1) (zonX ws x) []).1, fl, rf⟩ := by rw [← hZ, ← hF, ← hR]; rfl
  generalize hX : zonX ws x = x3 at hx3 hf0 ⊢
  generalize hL : zlp ws (ws.length + 1) x3 [] = R at hf0
  have hW : zonW ws x = R.2 := by rw [zonW, hX, hL]
  refine CW.seq (CW.block ?_)
  refine CW.loop (γ := Nat × Wd × List Pt × Option Nat × Nat) (fun g => (n - g.2.1.1 < g.1 ∧ g.2.1.1 ≤ n ∧ g.2.2.1.length ≤ g.2.1.1) ∧ zlp ws g.1 g.2.1 g.2.2.1 = R) (fun _ => [(0, .pointer (some ⟨b, 0, none⟩)), (2, .pointer (some ⟨b1, 0, none⟩)), (3, .pointer (some ⟨b2, 0, none⟩))]) (fun _ => [wsI p n ws, gvI])
    (fun g => [wdI b p n g.2.1, cel b2 (znC kp (slO g.2.2.2.1 g.2.2.1.length g.2.2.2.2) fl rf) 73, own g.2.2.2.1 g.2.2.2.2 80 2 g.2.2.1.length (g.2.2.1.flatMap Pt.cells), cel b1 (znC false (.slice none 0 0) 0 0) 73]) (fun g => g.1) (ws.length + 1, x3, [], none, 0) ⟨⟨by omega, hx3, Nat.zero_le _⟩, hL⟩
    (.cons rfl (.cons rfl (.cons rfl .nil))) (fun w h => (Cls.ownNone (e := 80) (sz := 2) h).rea (fun _ h => h) (by repeat (first | exact Rea.nil | (apply Rea.cons; (solve | (repeat (first | exact Del.here | apply Del.there))))))) ?_
  rintro ⟨f, x, L, ob, cp⟩ ⟨⟨hf, hxn, hLl⟩, hz⟩
  dsimp only at hf hxn hLl hz ⊢
  refine CW.seq (CW.seq (CW.rg (RL.p rfl (RL.p rfl (RL.fieldAddr fa_177_1 rfl rfl rfl rfl (RL.loadq Tryz.isAgg4 rfl rfl rfl rfl ?_))))))
  refine RL.p rfl ?_
  apply RL.andB (d := 24) (dp := 31) (l' := (Sq.of [])) rfl (sK [0, 2, 3] rfl)
  ·
    intro hb5 K5
    refine RL.p rfl (RL.p rfl (RL.fieldAddr fa_177_0 rfl rfl rfl rfl (RL.loadq Tryz.isAgg62 rfl rfl rfl rfl ?_)))
    refine RL.lenS Tryz.runUnderlying62 rfl rfl rfl rfl (RL.p rfl (RL.p rfl ?_))
    exact K5 _ (.cons rfl (sK [0, 2, 3] rfl))
  ·
    intro hb5 K5
    refine RL.p rfl (RL.p rfl (RL.p rfl (RL.p rfl (RL.p rfl (RL.p rfl (RL.p rfl ?_))))))
    exact K5 _ (.cons rfl (sK [0, 2, 3] rfl))
  refine RL.nil (NQ.seq ?_)
  obtain ⟨f, rfl⟩ : ∃ f', f = f' + 1 := ⟨f - 1, by omega⟩
  rw [zlp] at hz
  refine CW.cond rfl (fun hc => ?_) (fun hc => ?_)
  · have hg : x.2 = true ∧ x.1 < ws.length := by
      simp only [Bool.and_eq_true, decide_eq_true_eq] at hc
      exact ⟨hc.1, by omega⟩
    rw [if_pos (by rw [hg.1, decide_eq_true hg.2]; rfl)] at hz
    have hk1 := nWk_le (x := x) hn hxn
    have hl1 : (L ++ [(vW ws x 0, vW ws x 1)]).length = L.length + 1 := by simp
    have hfl : L.flatMap Pt.cells ++ [.int .i64 (vW ws x 0), .int .i64 (vW ws x 1)] = (L ++ [(vW ws x 0, vW ws x 1)]).flatMap Pt.cells := by rw [List.flatMap_append]; rfl
    refine CW.skip (NQ.seq (CW.block (CW.regionD (.cons 0 (.cons 2 (.cons 4 (.fork [1, 3] (fun k => (bif Nat.beq k 1 then (Sq.of [3, 5, 6, 7, 8, 9, 10]) else (.fork [1, 5] (fun k => (bif Nat.beq k 1 then (Sq.of [5, 6, 7, 8, 9, 10]) else (Sq.of [1, 6, 7, 8, 9, 10])))))))))) [3, 5, 7, 8, 10] [3, 5, 8, 10] [0, 2, 4, 6, 9] mixed (by kernel_rfl) ?_)))
    refine RL.fieldAddr fa_73_1 rfl rfl rfl rfl (RL.p rfl (RL.p rfl ?_))
    have hq : (nWk ws 2 x).1 = min (min (x.1 + 1) ws.length + 1) ws.length := rfl
    have hq3 : (n - (nWk ws 2 x).1 < f ∧ (nWk ws 2 x).1 ≤ n ∧ (L ++ [(vW ws x 0, vW ws x 1)]).length ≤ (nWk ws 2 x).1) ∧ zlp ws f (nWk ws 2 x) (L ++ [(vW ws x 0, vW ws x 1)]) = R := ⟨⟨by omega, hk1 2, by omega⟩, hz⟩
    refine RL.fork ⟨?_, ?_, trivial⟩
    ·
      refine RL.loadq Tryz.isAgg71 rfl rfl rfl rfl ?_
      refine RL.callq (fix_any b p n ws x hn h1 hxn hb hw) Tryz.call116 rfl rfl rfl rfl rfl (.inr rfl) ?_
      rintro _ _ _ ⟨rfl, rfl, rfl⟩
      refine RL.callq (fix_any b p n ws (nWk ws 1 x) hn h1 (hk1 1) hb hw) Tryz.call116 rfl rfl rfl rfl rfl (.inr rfl) ?_
      rintro _ _ _ ⟨rfl, rfl, rfl⟩
      refine RL.buildA [_, _] Tryz.zeroValue80 Tryz.runUnderlying80 Tryz.sizeOf23 rfl rfl rfl rfl rfl (RL.buildSlice [_, _] Tryz.runUnderlying71 Tryz.sizeOf80 Tryz.zeroValue80 rfl rfl (by decide) (by decide) rfl rfl rfl rfl rfl rfl ?_)
      intro b3
      refine RL.appendq el_71 rfl rfl rfl rfl rfl rfl rfl ?_
      intro ob1 cap1 ho1
      refine RL.fieldAddr fa_73_1 rfl rfl rfl rfl (RL.store (vs := [_]) Tryz.sizeOf71 rfl rfl rfl rfl rfl rfl rfl rfl rfl (by repeat (first | exact Upd.here | apply Upd.there)) ?_)
      refine RL.nil (NQ.block ?_)
      refine NQ.round (g := (f + 1, x, L, ob, cp)) (f, nWk ws 2 x, L ++ [(vW ws x 0, vW ws x 1)], ob1, cap1) hq3 (by show f < f + 1; omega) (.cons rfl (.cons rfl (.cons rfl .nil))) (fun w h => by dsimp only; rw [hl1, ← hfl]; exact h.rea (fun _ h => h) (by repeat (first | exact Rea.nil | (apply Rea.cons; (solve | (repeat (first | exact Del.here | apply Del.there)))))))
    ·
      refine RL.callq (fix_any b p n ws x hn h1 hxn hb hw) Tryz.call116 rfl rfl rfl rfl rfl (.inr rfl) ?_
      rintro _ _ _ ⟨rfl, rfl, rfl⟩
      refine RL.fork ⟨?_, ?_, trivial⟩
      ·
        refine RL.loadq Tryz.isAgg71 rfl rfl rfl rfl ?_
        refine RL.callq (fix_any b p n ws (nWk ws 1 x) hn h1 (hk1 1) hb hw) Tryz.call116 rfl rfl rfl rfl rfl (.inr rfl) ?_
        rintro _ _ _ ⟨rfl, rfl, rfl⟩
        refine RL.buildA [_, _] Tryz.zeroValue80 Tryz.runUnderlying80 Tryz.sizeOf23 rfl rfl rfl rfl rfl (RL.buildSlice [_, _] Tryz.runUnderlying71 Tryz.sizeOf80 Tryz.zeroValue80 rfl rfl (by decide) (by decide) rfl rfl rfl rfl rfl rfl ?_)
        intro b3
        refine RL.appendq el_71 rfl rfl rfl rfl rfl rfl rfl ?_
        intro ob1 cap1 ho1
        refine RL.fieldAddr fa_73_1 rfl rfl rfl rfl (RL.store (vs := [_]) Tryz.sizeOf71 rfl rfl rfl rfl rfl rfl rfl rfl rfl (by repeat (first | exact Upd.here | apply Upd.there)) ?_)
        refine RL.nil (NQ.block ?_)
        refine NQ.round (g := (f + 1, x, L, ob, cp)) (f, nWk ws 2 x, L ++ [(vW ws x 0, vW ws x 1)], ob1, cap1) hq3 (by show f < f + 1; omega) (.cons rfl (.cons rfl (.cons rfl .nil))) (fun w h => by dsimp only; rw [hl1, ← hfl]; exact h.rea (fun _ h => h) (by repeat (first | exact Rea.nil | (apply Rea.cons; (solve | (repeat (first | exact Del.here | apply Del.there)))))))
      ·
        refine RL.callq (fix_any b p n ws (nWk ws 1 x) hn h1 (hk1 1) hb hw) Tryz.call116 rfl rfl rfl rfl rfl (.inr rfl) ?_
        rintro _ _ _ ⟨rfl, rfl, rfl⟩
        refine RL.loadq Tryz.isAgg71 rfl rfl rfl rfl ?_
        refine RL.buildA [_, _] Tryz.zeroValue80 Tryz.runUnderlying80 Tryz.sizeOf23 rfl rfl rfl rfl rfl (RL.buildSlice [_, _] Tryz.runUnderlying71 Tryz.sizeOf80 Tryz.zeroValue80 rfl rfl (by decide) (by decide) rfl rfl rfl rfl rfl rfl ?_)
        intro b3
        refine RL.appendq el_71 rfl rfl rfl rfl rfl rfl rfl ?_
        intro ob1 cap1 ho1
        refine RL.fieldAddr fa_73_1 rfl rfl rfl rfl (RL.store (vs := [_]) Tryz.sizeOf71 rfl rfl rfl rfl rfl rfl rfl rfl rfl (by repeat (first | exact Upd.here | apply Upd.there)) ?_)
        refine RL.nil (NQ.block ?_)
        refine NQ.round (g := (f + 1, x, L, ob, cp)) (f, nWk ws 2 x, L ++ [(vW ws x 0, vW ws x 1)], ob1, cap1) hq3 (by show f < f + 1; omega) (.cons rfl (.cons rfl (.cons rfl .nil))) (fun w h => by dsimp only; rw [hl1, ← hfl]; exact h.rea (fun _ h => h) (by repeat (first | exact Rea.nil | (apply Rea.cons; (solve | (repeat (first | exact Del.here | apply Del.there)))))))
  ·
    refine CW.exit (XQ.seq (XQ.seq (XQ.hit (NQ.seq (CW.seq (CW.region (ef := [1]) (bk := [1]) (RL.loadN (vs := [_, _, _, _]) Tryz.isAgg73 Tryz.sizeOf73 rfl rfl rfl rfl (by first | (apply Rds.cel; (solve | (repeat (first | exact List.Mem.head _ | apply List.Mem.tail))); exact at_spec ⟨rfl, rfl, rfl, rfl, trivial⟩) | (apply Rds.celI; (solve | (repeat (first | exact List.Mem.head _ | apply List.Mem.tail))); exact at_spec ⟨rfl, rfl, rfl, rfl, trivial⟩) | assumption | (apply RdsI.rds; assumption)) ?_)))))))
    refine RL.store (vs := [_, _, _, _]) Tryz.sizeOf73 rfl rfl rfl rfl rfl rfl rfl rfl rfl (by repeat (first | exact Upd.here | apply Upd.there)) ?_
    refine RL.nil (NQ.seq (CW.ret ?_))
    have hg : (x.2 && decide (x.1 < ws.length)) = false := by
      revert hc
      cases x.2 <;> simp
      omega
    rw [if_neg (by rw [hg]; decide)] at hz
    have hz1 : R.1 = L := by rw [← hz]
    have hz2 : R.2 = x := by rw [← hz]
    refine RQ.post (resW rfl rfl Tryz.isAgg73 Tryz.sizeOf73 (by repeat (first | exact List.Mem.head _ | apply List.Mem.tail)) rfl) (.keep (.drop (.keep (Split.none _)))) ⟨ob, cp, ?_, rfl, ?_⟩
    · rw [hf0]; dsimp only; rw [hz1]; rfl
    · rw [hf0]; dsimp only; rw [hz1, hW, hz2]
end Go.Proofs.YthndhipjfdgdfaaGreatDoor

namespace Go.Proofs.YthndhipjfdgdfaaGreatDoor
open Go.PK
/-! ### A parser: its plan, the names that it saw -/
def goodT (v : Value) : Prop := ∃ s : Tx, v = strV s
theorem strV_inj {a b : Tx} : strV a = strV b ↔ a = b := ⟨fun h => txt_inj (by injection h), fun h => by rw [h]⟩
theorem keyS : KeyT Tryz.prog 9 goodT where
  desc := ⟨_, Tryz.runUnderlying9, fun a b ha hb => by
    obtain ⟨m, rfl⟩ := ha; obtain ⟨n, rfl⟩ := hb
    right
    have e : Instr.sameNow .string (strV m) (strV n) = some (txt m == txt n) := rfl
    rw [e, beq_toListBytes, txt_beq]
    congr 1
    rw [Bool.eq_iff_iff, beq_iff_eq, same_iff, strV_inj]⟩
  eq := by
    rintro _ _ ⟨a, rfl⟩ ⟨c, rfl⟩ w
    have h := run_equalIn_string (P := Tryz.prog) w 9999 9 (txt a) (txt c) (by kernel_rfl)
    rw [txt_beq] at h
    have e : (a == c) = same (strV a) (strV c) := by
      rw [Bool.eq_iff_iff, beq_iff_eq, same_iff, strV_inj]
    rw [← e]; exact h
  chk := by
    rintro _ ⟨a, rfl⟩ e w
    have : ∀ n, (Instr.checkKey e (n + 2) 9 (strV a)).run Tryz.prog w = .ok () w := by
      intro n
      simp [Instr.checkKey, Go.part, go_sem]
    exact this 9998
  bits := by
    rintro _ ⟨a, rfl⟩
    simp [Instr.sameBits, beq_toListBytes]
def isNm (n : Tx) : Bool := decide (n ∈ nmL)
def mapS (seen : List Tx) : List (Value × Value) := (seen.filter isNm).map fun n => (strV n, .bool true)
theorem look_S {nm : Tx} (h : isNm nm = true) : ∀ seen : List Tx, (lookV (strV nm) (mapS seen)).getD (.bool false) = .bool (decide (nm ∈ seen))
  | [] => rfl
  | a :: r => by
    have ih := look_S h r
    by_cases ha : isNm a = true
    · rw [mapS, List.filter_cons_of_pos ha, List.map_cons, lookV]
      by_cases e : nm = a
      · subst e; rw [if_pos rfl]; simp
      · rw [if_neg (by rw [strV_inj]; exact e)]
        show (lookV (strV nm) (mapS r)).getD _ = _
        rw [ih]; simp [e]
    · have e : nm ≠ a := fun e => ha (e ▸ h)
      rw [mapS, List.filter_cons_of_neg ha]
      show (lookV (strV nm) (mapS r)).getD _ = _
      rw [ih]; simp [e]
theorem look_S0 {nm : Tx} (h : isNm nm = true) {seen : List Tx} (hn : nm ∉ seen) : lookV (strV nm) (mapS seen) = none := by
  induction seen with
  | nil => rfl
  | cons a r ih =>
    have e : nm ≠ a := fun e => hn (by simp [e])
    have ih := ih (fun hx => hn (by simp [hx]))
    by_cases ha : isNm a = true
    · rw [mapS, List.filter_cons_of_pos ha, List.map_cons, lookV, if_neg (by rw [strV_inj]; exact e)]; exact ih
    · rw [mapS, List.filter_cons_of_neg ha]; exact ih
theorem set_S {nm : Tx} (h : isNm nm = true) {seen : List Tx} (hn : nm ∉ seen) : setV (strV nm) (.bool true) (mapS seen) = mapS (seen ++ [nm]) := by
  rw [setV_absent (look_S0 h hn), mapS, mapS, List.filter_append, List.map_append, List.filter_cons_of_pos h]; rfl
/-- What the parser holds. -/
def psC (P : Pl) (sl zl : Value) (mp : Nat) : List Value := P.cf.cells sl ++ [zl, .int .i64 P.de, .int .i64 P.ra, .int .i64 P.mo, .int .i64 P.sz, .map (some mp)]
theorem ps_len {P : Pl} (h : P.cf.cm.length = 32) (sl zl : Value) (mp : Nat) : (psC P sl zl mp).length = 51 := by rw [psC, List.length_append, cf_len h]; rfl
section
variable {g0 g1 g2 dr mo ti gr sd de ra m sz : Int} {sc : Sch} {cm : List B8} {L : List Sr} {zs : List Zn} {sl zl : Value} {mp : Nat}
theorem ps_grav (a b c : Int) : spl (psC ⟨⟨g0, g1, g2, dr, sc, cm, mo, ti, gr, sd, L⟩, zs, de, ra, m, sz⟩ sl zl mp) (0 + 0 + 0 + 1) [.int .i64 a, .int .i64 b, .int .i64 c] = psC ⟨⟨a, b, c, dr, sc, cm, mo, ti, gr, sd, L⟩, zs, de, ra, m, sz⟩ sl zl mp := rfl
theorem ps_dr (a : Int) : spl (psC ⟨⟨g0, g1, g2, dr, sc, cm, mo, ti, gr, sd, L⟩, zs, de, ra, m, sz⟩ sl zl mp) (0 + 0 + 0 + 4) [.int .i64 a] = psC ⟨⟨g0, g1, g2, a, sc, cm, mo, ti, gr, sd, L⟩, zs, de, ra, m, sz⟩ sl zl mp := rfl
theorem ps_s0 {a b c d : Int} (e : Int) : spl (psC ⟨⟨g0, g1, g2, dr, ⟨a, b, c, d⟩, cm, mo, ti, gr, sd, L⟩, zs, de, ra, m, sz⟩ sl zl mp) (0 + 0 + 0 + 5 + 0) [.int .i64 e] = psC ⟨⟨g0, g1, g2, dr, ⟨e, b, c, d⟩, cm, mo, ti, gr, sd, L⟩, zs, de, ra, m, sz⟩ sl zl mp := rfl
theorem ps_s1 {a b c d : Int} (e : Int) : spl (psC ⟨⟨g0, g1, g2, dr, ⟨a, b, c, d⟩, cm, mo, ti, gr, sd, L⟩, zs, de, ra, m, sz⟩ sl zl mp) (0 + 0 + 0 + 5 + 1) [.int .i64 e] = psC ⟨⟨g0, g1, g2, dr, ⟨a, e, c, d⟩, cm, mo, ti, gr, sd, L⟩, zs, de, ra, m, sz⟩ sl zl mp := rfl
theorem ps_s2 {a b c d : Int} (e : Int) : spl (psC ⟨⟨g0, g1, g2, dr, ⟨a, b, c, d⟩, cm, mo, ti, gr, sd, L⟩, zs, de, ra, m, sz⟩ sl zl mp) (0 + 0 + 0 + 5 + 2) [.int .i64 e] = psC ⟨⟨g0, g1, g2, dr, ⟨a, b, e, d⟩, cm, mo, ti, gr, sd, L⟩, zs, de, ra, m, sz⟩ sl zl mp := rfl
theorem ps_s3 {a b c d : Int} (e : Int) : spl (psC ⟨⟨g0, g1, g2, dr, ⟨a, b, c, d⟩, cm, mo, ti, gr, sd, L⟩, zs, de, ra, m, sz⟩ sl zl mp) (0 + 0 + 0 + 5 + 3) [.int .i64 e] = psC ⟨⟨g0, g1, g2, dr, ⟨a, b, c, e⟩, cm, mo, ti, gr, sd, L⟩, zs, de, ra, m, sz⟩ sl zl mp := by
  have h : ∀ d : Int, psC ⟨⟨g0, g1, g2, dr, ⟨a, b, c, d⟩, cm, mo, ti, gr, sd, L⟩, zs, de, ra, m, sz⟩ sl zl mp = [sl, .int .i64 g0, .int .i64 g1, .int .i64 g2, .int .i64 dr, .int .i64 a, .int .i64 b, .int .i64 c] ++ ([.int .i64 d] ++ (bytes cm ++ [.int .i64 mo, .int .i64 ti, .int .i64 gr, .int .u64 sd, zl, .int .i64 de, .int .i64 ra, .int .i64 m, .int .i64 sz, .map (some mp)])) := fun d => by simp [psC, Cf.cells, Cf.tl]
  rw [h, h]; exact seg_spl rfl rfl
theorem ps_sl (sl' : Value) : spl (psC ⟨⟨g0, g1, g2, dr, sc, cm, mo, ti, gr, sd, L⟩, zs, de, ra, m, sz⟩ sl zl mp) (0 + 0 + 0 + 0) [sl'] = psC ⟨⟨g0, g1, g2, dr, sc, cm, mo, ti, gr, sd, L⟩, zs, de, ra, m, sz⟩ sl' zl mp := rfl
theorem ps_cm {k : List B8} (h : cm.length = 32) (hk : k.length = 32) : spl (psC ⟨⟨g0, g1, g2, dr, sc, cm, mo, ti, gr, sd, L⟩, zs, de, ra, m, sz⟩ sl zl mp) (0 + 0 + 0 + 9) (bytes k) = psC ⟨⟨g0, g1, g2, dr, sc, k, mo, ti, gr, sd, L⟩, zs, de, ra, m, sz⟩ sl zl mp := by
  have e : ∀ q : List B8, psC ⟨⟨g0, g1, g2, dr, sc, q, mo, ti, gr, sd, L⟩, zs, de, ra, m, sz⟩ sl zl mp = [sl, .int .i64 g0, .int .i64 g1, .int .i64 g2, .int .i64 dr, .int .i64 sc.st, .int .i64 sc.ln, .int .i64 sc.lg, .int .i64 sc.of] ++ (bytes q ++ [.int .i64 mo, .int .i64 ti, .int .i64 gr, .int .u64 sd, zl, .int .i64 de, .int .i64 ra, .int .i64 m, .int .i64 sz, .map (some mp)]) := fun q => by simp [psC, Cf.cells, Cf.tl]
  rw [e, e]; exact seg_spl rfl (by simp [h, hk])
theorem ps_eq (k : Nat) : psC ⟨⟨g0, g1, g2, dr, sc, cm, mo, ti, gr, sd, L⟩, zs, de, ra, m, sz⟩ sl zl mp = (sl :: .int .i64 g0 :: .int .i64 g1 :: .int .i64 g2 :: .int .i64 dr :: .int .i64 sc.st :: .int .i64 sc.ln :: .int .i64 sc.lg :: .int .i64 sc.of :: (bytes cm ++ ([Value.int .i64 mo, .int .i64 ti, .int .i64 gr, .int .u64 sd, zl, .int .i64 de, .int .i64 ra, .int .i64 m, .int .i64 sz, .map (some mp)].take k))) ++ ([Value.int .i64 mo, .int .i64 ti, .int .i64 gr, .int .u64 sd, zl, .int .i64 de, .int .i64 ra, .int .i64 m, .int .i64 sz, .map (some mp)].drop k) := by
  simp only [List.cons_append, List.append_assoc, List.take_append_drop]
  simp [psC, Cf.cells, Cf.tl]
theorem ps_mo (h : cm.length = 32) (v : Int) : spl (psC ⟨⟨g0, g1, g2, dr, sc, cm, mo, ti, gr, sd, L⟩, zs, de, ra, m, sz⟩ sl zl mp) (0 + 0 + 0 + 41) [.int .i64 v] = psC ⟨⟨g0, g1, g2, dr, sc, cm, v, ti, gr, sd, L⟩, zs, de, ra, m, sz⟩ sl zl mp := by
  rw [ps_eq 0, ps_eq 0]
  exact seg_spl (B := [_]) (by simp [h]) rfl
theorem ps_ti (h : cm.length = 32) (v : Int) : spl (psC ⟨⟨g0, g1, g2, dr, sc, cm, mo, ti, gr, sd, L⟩, zs, de, ra, m, sz⟩ sl zl mp) (0 + 0 + 0 + 42) [.int .i64 v] = psC ⟨⟨g0, g1, g2, dr, sc, cm, mo, v, gr, sd, L⟩, zs, de, ra, m, sz⟩ sl zl mp := by
  rw [ps_eq 1, ps_eq 1]
  exact seg_spl (B := [_]) (by simp [h]) rfl
theorem ps_gr (h : cm.length = 32) (v : Int) : spl (psC ⟨⟨g0, g1, g2, dr, sc, cm, mo, ti, gr, sd, L⟩, zs, de, ra, m, sz⟩ sl zl mp) (0 + 0 + 0 + 43) [.int .i64 v] = psC ⟨⟨g0, g1, g2, dr, sc, cm, mo, ti, v, sd, L⟩, zs, de, ra, m, sz⟩ sl zl mp := by
  rw [ps_eq 2, ps_eq 2]
  exact seg_spl (B := [_]) (by simp [h]) rfl
theorem ps_sd (h : cm.length = 32) (v : Int) : spl (psC ⟨⟨g0, g1, g2, dr, sc, cm, mo, ti, gr, sd, L⟩, zs, de, ra, m, sz⟩ sl zl mp) (0 + 0 + 0 + 44) [.int .u64 v] = psC ⟨⟨g0, g1, g2, dr, sc, cm, mo, ti, gr, v, L⟩, zs, de, ra, m, sz⟩ sl zl mp := by
  rw [ps_eq 3, ps_eq 3]
  exact seg_spl (B := [_]) (by simp [h]) rfl
theorem ps_zl (h : cm.length = 32) (v : Value) : spl (psC ⟨⟨g0, g1, g2, dr, sc, cm, mo, ti, gr, sd, L⟩, zs, de, ra, m, sz⟩ sl zl mp) (0 + 0 + 45) [v] = psC ⟨⟨g0, g1, g2, dr, sc, cm, mo, ti, gr, sd, L⟩, zs, de, ra, m, sz⟩ sl v mp := by
  rw [ps_eq 4, ps_eq 4]
  exact seg_spl (B := [_]) (by simp [h]) rfl
theorem ps_de (h : cm.length = 32) (v : Int) : spl (psC ⟨⟨g0, g1, g2, dr, sc, cm, mo, ti, gr, sd, L⟩, zs, de, ra, m, sz⟩ sl zl mp) (0 + 0 + 46) [.int .i64 v] = psC ⟨⟨g0, g1, g2, dr, sc, cm, mo, ti, gr, sd, L⟩, zs, v, ra, m, sz⟩ sl zl mp := by
  rw [ps_eq 5, ps_eq 5]
  exact seg_spl (B := [_]) (by simp [h]) rfl
theorem ps_ra (h : cm.length = 32) (v : Int) : spl (psC ⟨⟨g0, g1, g2, dr, sc, cm, mo, ti, gr, sd, L⟩, zs, de, ra, m, sz⟩ sl zl mp) (0 + 0 + 47) [.int .i64 v] = psC ⟨⟨g0, g1, g2, dr, sc, cm, mo, ti, gr, sd, L⟩, zs, de, v, m, sz⟩ sl zl mp := by
  rw [ps_eq 6, ps_eq 6]
  exact seg_spl (B := [_]) (by simp [h]) rfl
theorem ps_m (h : cm.length = 32) (v : Int) : spl (psC ⟨⟨g0, g1, g2, dr, sc, cm, mo, ti, gr, sd, L⟩, zs, de, ra, m, sz⟩ sl zl mp) (0 + 0 + 48) [.int .i64 v] = psC ⟨⟨g0, g1, g2, dr, sc, cm, mo, ti, gr, sd, L⟩, zs, de, ra, v, sz⟩ sl zl mp := by
  rw [ps_eq 7, ps_eq 7]
  exact seg_spl (B := [_]) (by simp [h]) rfl
theorem ps_sz (h : cm.length = 32) (v : Int) : spl (psC ⟨⟨g0, g1, g2, dr, sc, cm, mo, ti, gr, sd, L⟩, zs, de, ra, m, sz⟩ sl zl mp) (0 + 0 + 49) [.int .i64 v] = psC ⟨⟨g0, g1, g2, dr, sc, cm, mo, ti, gr, sd, L⟩, zs, de, ra, m, v⟩ sl zl mp := by
  rw [ps_eq 8, ps_eq 8]
  exact seg_spl (B := [_]) (by simp [h]) rfl
end
end Go.Proofs.YthndhipjfdgdfaaGreatDoor

namespace Go.Proofs.YthndhipjfdgdfaaGreatDoor
open Go.PK
/-! ### A line that stands there once -/
noncomputable def oneV (ws : List Tx) (P : Pl) (nm : Tx) (x : Wd) : Option (Pl × Wd) := match P with
  | ⟨⟨g0, g1, g2, dr, ⟨s0, s1, s2, s3⟩, cm, mo, ti, gr, sd, L⟩, zs, de, ra, m, sz⟩ =>
    if nm = nGravity then some (⟨⟨vW ws x 0, vW ws x 1, vW ws x 2, dr, ⟨s0, s1, s2, s3⟩, cm, mo, ti, gr, sd, L⟩, zs, de, ra, m, sz⟩, nWk ws 3 x)
    else if nm = nDrift then some (⟨⟨g0, g1, g2, vW ws x 0, ⟨s0, s1, s2, s3⟩, cm, mo, ti, gr, sd, L⟩, zs, de, ra, m, sz⟩, nWk ws 1 x)
    else if nm = nSlot then some (⟨⟨g0, g1, g2, dr, ⟨vW ws x 0, vW ws x 1, vW ws x 2, vW ws x 3⟩, cm, mo, ti, gr, sd, L⟩, zs, de, ra, m, sz⟩, nWk ws 4 x)
    else if nm = nCommit then some (⟨⟨g0, g1, g2, dr, ⟨s0, s1, s2, s3⟩, keyV (nxW ws x), mo, ti, gr, sd, L⟩, zs, de, ra, m, sz⟩, kW ws x)
    else if nm = nLock then some (⟨⟨g0, g1, g2, dr, ⟨s0, s1, s2, s3⟩, cm, vW ws x 0, vW ws x 1, gr, sd, L⟩, zs, de, ra, m, sz⟩, nWk ws 2 x)
    else if nm = nGrace then some (⟨⟨g0, g1, g2, dr, ⟨s0, s1, s2, s3⟩, cm, mo, ti, vW ws x 0, sd, L⟩, zs, de, ra, m, sz⟩, nWk ws 1 x)
    else if nm = nStride then some (⟨⟨g0, g1, g2, dr, ⟨s0, s1, s2, s3⟩, cm, mo, ti, gr, (bareV (nxW ws x) : Int), L⟩, zs, de, ra, m, sz⟩, bW ws x)
    else if nm = nClock then some (⟨⟨g0, g1, g2, dr, ⟨s0, s1, s2, s3⟩, cm, mo, ti, gr, sd, L⟩, zs, vW ws x 0, vW ws x 1, vW ws x 2, sz⟩, nWk ws 3 x)
    else if nm = nTrace then some (⟨⟨g0, g1, g2, dr, ⟨s0, s1, s2, s3⟩, cm, mo, ti, gr, sd, L⟩, zs, de, ra, m, vW ws x 0⟩, nWk ws 1 x)
    else none
theorem oneV_nm {ws : List Tx} {P : Pl} {nm : Tx} {x : Wd} {q : Pl × Wd} (h : oneV ws P nm x = some q) : isNm nm = true := by
  obtain ⟨⟨g0, g1, g2, dr, ⟨s0, s1, s2, s3⟩, cm, mo, ti, gr, sd, L⟩, zs, de, ra, m, sz⟩ := P
  rw [oneV] at h
  by_cases h0 : nm = nGravity
  · rw [h0]; rfl
  by_cases h1 : nm = nDrift
  · rw [h1]; rfl
  by_cases h2 : nm = nSlot
  · rw [h2]; rfl
  by_cases h3 : nm = nCommit
  · rw [h3]; rfl
  by_cases h4 : nm = nLock
  · rw [h4]; rfl
  by_cases h5 : nm = nGrace
  · rw [h5]; rfl
  by_cases h6 : nm = nStride
  · rw [h6]; rfl
  by_cases h7 : nm = nClock
  · rw [h7]; rfl
  by_cases h8 : nm = nTrace
  · rw [h8]; rfl
  rw [if_neg h0, if_neg h1, if_neg h2, if_neg h3, if_neg h4, if_neg h5, if_neg h6, if_neg h7, if_neg h8] at h
  cases h
theorem oneV_cm {ws : List Tx} {P : Pl} {nm : Tx} {x : Wd} {q : Pl × Wd} (hcm : P.cf.cm.length = 32) (h : oneV ws P nm x = some q) : q.1.cf.cm.length = 32 := by
  obtain ⟨⟨g0, g1, g2, dr, ⟨s0, s1, s2, s3⟩, cm, mo, ti, gr, sd, L⟩, zs, de, ra, m, sz⟩ := P
  rw [oneV] at h
  by_cases h0 : nm = nGravity
  · rw [if_pos h0] at h; rw [← Option.some.inj h]; exact hcm
  by_cases h1 : nm = nDrift
  · rw [if_neg h0, if_pos h1] at h; rw [← Option.some.inj h]; exact hcm
  by_cases h2 : nm = nSlot
  · rw [if_neg h0, if_neg h1, if_pos h2] at h; rw [← Option.some.inj h]; exact hcm
  by_cases h3 : nm = nCommit
  · rw [if_neg h0, if_neg h1, if_neg h2, if_pos h3] at h; rw [← Option.some.inj h]; exact keyV_len _
  by_cases h4 : nm = nLock
  · rw [if_neg h0, if_neg h1, if_neg h2, if_neg h3, if_pos h4] at h; rw [← Option.some.inj h]; exact hcm
  by_cases h5 : nm = nGrace
  · rw [if_neg h0, if_neg h1, if_neg h2, if_neg h3, if_neg h4, if_pos h5] at h; rw [← Option.some.inj h]; exact hcm
  by_cases h6 : nm = nStride
  · rw [if_neg h0, if_neg h1, if_neg h2, if_neg h3, if_neg h4, if_neg h5, if_pos h6] at h; rw [← Option.some.inj h]; exact hcm
  by_cases h7 : nm = nClock
  · rw [if_neg h0, if_neg h1, if_neg h2, if_neg h3, if_neg h4, if_neg h5, if_neg h6, if_pos h7] at h; rw [← Option.some.inj h]; exact hcm
  by_cases h8 : nm = nTrace
  · rw [if_neg h0, if_neg h1, if_neg h2, if_neg h3, if_neg h4, if_neg h5, if_neg h6, if_neg h7, if_pos h8] at h; rw [← Option.some.inj h]; exact hcm
  rw [if_neg h0, if_neg h1, if_neg h2, if_neg h3, if_neg h4, if_neg h5, if_neg h6, if_neg h7, if_neg h8] at h
  cases h
def OnR (b : Nat) (p : Addr) (n : Nat) (ws : List Tx) (x : Wd) (br : Nat) (P : Pl) (sl zl : Value) (mp : Nat) (nm : Tx) (seen : List Tx) : Value → List It → List It → Prop := fun v I' H' =>
  (oneV ws P nm x = none ∧ v = .bool false ∧ I' = [] ∧ H' = [wdI b p n x, cel br (psC P sl zl mp) 124, mapI mp goodT (mapS seen)]) ∨
  ∃ q, oneV ws P nm x = some q ∧ v = .bool (decide (nm ∉ seen)) ∧ I' = [] ∧ H' = [wdI b p n q.2, cel br (psC q.1 sl zl mp) 124, mapI mp goodT (mapS (if nm ∈ seen then seen else seen ++ [nm]))]
theorem once_any (b : Nat) (p : Addr) (n : Nat) (ws : List Tx) (x : Wd) (hn : ws.length = n) (h1 : 1 ≤ n) (hx : x.1 ≤ n) (hb : n ≤ 1000000) (hw : WLen ws) (br : Nat) (P : Pl) (hcm : P.cf.cm.length = 32) (sl zl : Value) (hs1 : sl.oneCell' = true) (hz1 : zl.oneCell' = true) (mp : Nat) (nm : Tx) (seen : List Tx) :
    Spc Tryz.prog 80 #[.pointer (some ⟨br, 0, none⟩), strV nm, .pointer (some ⟨b, 0, none⟩)] [wsI p n ws, gvI] [wdI b p n x, cel br (psC P sl zl mp) 124, mapI mp goodT (mapS seen)] (OnR b p n ws x br P sl zl mp nm seen) := by
  have hk := nWk_le (x := x) hn hx
  have hone : ∀ q, oneV ws P nm x = some q → isNm nm = true := fun q h => oneV_nm h
  have hcmq : ∀ q, oneV ws P nm x = some q → q.1.cf.cm.length = 32 := fun q h => oneV_cm hcm h
  have hkl := keyV_len (nxW ws x)
  have hs32 : ∀ w, (sizeOf 29).run Tryz.prog w = .ok (bytes (keyV (nxW ws x))).length w := fun w => by rw [show (bytes (keyV (nxW ws x))).length = 32 by rw [List.length_map, hkl]]; exact Tryz.sizeOf29 w
  refine Spc.enter Tryz.func80 rfl rfl rfl (fun w0 hw0 => ?_)
  refine CW.seq (CW.rg (RL.p rfl (RL.nil (NQ.seq (CW.seq (CW.rg (RL.p rfl (RL.p rfl (RL.fieldAddr fa_124_0 rfl rfl rfl rfl (RL.fieldAddr fa_35_0 rfl rfl rfl rfl (RL.p rfl (RL.nil (NQ.seq ?_)))))))))))))
  refine CW.seq (CW.seq (CW.rg (RL.p rfl (RL.nil (NQ.seq ?_)))))
  refine CW.cutR (γ := Pl × Wd) (fun q => oneV ws P nm x = some q) (fun _ => [(0, .pointer (some ⟨br, 0, none⟩)), (1, strV nm), (2, .pointer (some ⟨b, 0, none⟩))]) (fun _ => [wsI p n ws, gvI])
    (fun q => [wdI b p n q.2, cel br (psC q.1 sl zl mp) 124, mapI mp goodT (mapS seen)]) ?_ ?_
  · clear hone hcmq
    obtain ⟨⟨g0, g1, g2, dr, ⟨s0, s1, s2, s3⟩, cm, mo, ti, gr, sd, L⟩, zs, de, ra, m, sz⟩ := P
    dsimp only at hcm
    refine CW.block (CW.seq (CW.rg (RL.cmp rfl rfl rfl rfl rfl (fun w => eql_txt nm nGravity w) ?_)))
    refine RL.p rfl (RL.nil (NQ.seq ?_))
    refine CW.cond rfl (fun e0 => ?_) (fun e0 => ?_)
    · have h0' : nm = nGravity := by simpa using e0
      have hq : oneV ws ⟨⟨g0, g1, g2, dr, ⟨s0, s1, s2, s3⟩, cm, mo, ti, gr, sd, L⟩, zs, de, ra, m, sz⟩ nm x = some (⟨⟨vW ws x 0, vW ws x 1, vW ws x 2, dr, ⟨s0, s1, s2, s3⟩, cm, mo, ti, gr, sd, L⟩, zs, de, ra, m, sz⟩, nWk ws 3 x) := by rw [oneV, if_pos h0']
      refine CW.region (ef := [2, 4, 6, 10]) (bk := [2, 4, 6, 10]) (RL.p rfl (RL.p rfl (RL.callq (fix_any b p n ws x hn h1 hx hb hw) Tryz.call116 rfl rfl rfl rfl rfl (.inr rfl) ?_)))
      rintro _ _ _ ⟨rfl, rfl, rfl⟩
      refine RL.p rfl (RL.callq (fix_any b p n ws (nWk ws 1 x) hn h1 (hk 1) hb hw) Tryz.call116 rfl rfl rfl rfl rfl (.inr rfl) ?_)
      rintro _ _ _ ⟨rfl, rfl, rfl⟩
      refine RL.p rfl (RL.callq (fix_any b p n ws (nWk ws 2 x) hn h1 (hk 2) hb hw) Tryz.call116 rfl rfl rfl rfl rfl (.inr rfl) ?_)
      rintro _ _ _ ⟨rfl, rfl, rfl⟩
      refine RL.buildA [_, _, _] Tryz.zeroValue25 Tryz.runUnderlying25 Tryz.sizeOf23 rfl rfl rfl rfl rfl (RL.p rfl (RL.fieldAddr fa_32_1 rfl rfl rfl rfl (RL.storeX (vs := [_, _, _]) (show spl (psC ⟨⟨g0, g1, g2, dr, ⟨s0, s1, s2, s3⟩, cm, mo, ti, gr, sd, L⟩, zs, de, ra, m, sz⟩ sl zl mp) (0 + 0 + 0 + 1) [.int .i64 (vW ws x 0), .int .i64 (vW ws x 1), .int .i64 (vW ws x 2)] = psC ⟨⟨vW ws x 0, vW ws x 1, vW ws x 2, dr, ⟨s0, s1, s2, s3⟩, cm, mo, ti, gr, sd, L⟩, zs, de, ra, m, sz⟩ sl zl mp from ps_grav _ _ _) Tryz.sizeOf25 rfl rfl rfl rfl rfl rfl rfl rfl (by repeat (first | exact Upd.here | apply Upd.there)) (by rw [ps_len hcm]; show 0 + 0 + 0 + 1 + 3 ≤ 51; decide) ?_)))
      refine RL.nil (NQ.block ?_)
      exact NQ.midR (⟨⟨vW ws x 0, vW ws x 1, vW ws x 2, dr, ⟨s0, s1, s2, s3⟩, cm, mo, ti, gr, sd, L⟩, zs, de, ra, m, sz⟩, nWk ws 3 x) hq (.cons rfl (.cons rfl (.cons rfl .nil))) (fun w h => h.rea (fun _ h => h) (by repeat (first | exact Rea.nil | (apply Rea.cons; (solve | (repeat (first | exact Del.here | apply Del.there)))))))
    ·
      have h0' : nm ≠ nGravity := by simpa using e0
      refine CW.seq (CW.rg (RL.cmp rfl rfl rfl rfl rfl (fun w => eql_txt nm nDrift w) ?_))
      refine RL.p rfl (RL.nil (NQ.seq (CW.ok [0, 1, 2, 6, 7, 12, 25] rfl ?_)))
      refine CW.cond rfl (fun e1 => ?_) (fun e1 => ?_)
      · have h1' : nm = nDrift := by simpa using e1
        have hq : oneV ws ⟨⟨g0, g1, g2, dr, ⟨s0, s1, s2, s3⟩, cm, mo, ti, gr, sd, L⟩, zs, de, ra, m, sz⟩ nm x = some (⟨⟨g0, g1, g2, vW ws x 0, ⟨s0, s1, s2, s3⟩, cm, mo, ti, gr, sd, L⟩, zs, de, ra, m, sz⟩, nWk ws 1 x) := by rw [oneV, if_neg h0', if_pos h1']
        refine CW.region (ef := [2, 5]) (bk := [2, 5]) (RL.p rfl (RL.p rfl (RL.callq (fix_any b p n ws x hn h1 hx hb hw) Tryz.call116 rfl rfl rfl rfl rfl (.inr rfl) ?_)))
        rintro _ _ _ ⟨rfl, rfl, rfl⟩
        refine RL.p rfl (RL.fieldAddr fa_32_2 rfl rfl rfl rfl (RL.storeX (vs := [_]) (show spl (psC ⟨⟨g0, g1, g2, dr, ⟨s0, s1, s2, s3⟩, cm, mo, ti, gr, sd, L⟩, zs, de, ra, m, sz⟩ sl zl mp) (0 + 0 + 0 + 4) [.int .i64 (vW ws x 0)] = psC ⟨⟨g0, g1, g2, vW ws x 0, ⟨s0, s1, s2, s3⟩, cm, mo, ti, gr, sd, L⟩, zs, de, ra, m, sz⟩ sl zl mp from ps_dr _) Tryz.sizeOf23 rfl rfl rfl rfl rfl rfl rfl rfl (by repeat (first | exact Upd.here | apply Upd.there)) (by rw [ps_len hcm]; show 0 + 0 + 0 + 4 + 1 ≤ 51; decide) ?_))
        refine RL.nil (NQ.block ?_)
        exact NQ.midR (⟨⟨g0, g1, g2, vW ws x 0, ⟨s0, s1, s2, s3⟩, cm, mo, ti, gr, sd, L⟩, zs, de, ra, m, sz⟩, nWk ws 1 x) hq (.cons rfl (.cons rfl (.cons rfl .nil))) (fun w h => h.rea (fun _ h => h) (by repeat (first | exact Rea.nil | (apply Rea.cons; (solve | (repeat (first | exact Del.here | apply Del.there)))))))
      ·
        have h1' : nm ≠ nDrift := by simpa using e1
        refine CW.seq (CW.rg (RL.cmp rfl rfl rfl rfl rfl (fun w => eql_txt nm nSlot w) ?_))
        refine RL.p rfl (RL.nil (NQ.seq ?_))
        refine CW.cond rfl (fun e2 => ?_) (fun e2 => ?_)
        · have h2' : nm = nSlot := by simpa using e2
          have hq : oneV ws ⟨⟨g0, g1, g2, dr, ⟨s0, s1, s2, s3⟩, cm, mo, ti, gr, sd, L⟩, zs, de, ra, m, sz⟩ nm x = some (⟨⟨g0, g1, g2, dr, ⟨vW ws x 0, vW ws x 1, vW ws x 2, vW ws x 3⟩, cm, mo, ti, gr, sd, L⟩, zs, de, ra, m, sz⟩, nWk ws 4 x) := by rw [oneV, if_neg h0', if_neg h1', if_pos h2']
          refine CW.region (ef := [5, 7, 9, 11, 15, 19, 23, 27]) (bk := [5, 7, 9, 11, 15, 19, 23, 27]) (RL.p rfl (RL.p rfl (RL.p rfl (RL.p rfl (RL.p rfl (RL.callq (num_any b p n ws x hn h1 hx hb hw) Tryz.call114 rfl rfl rfl rfl rfl (.inr rfl) ?_))))))
          rintro _ _ _ ⟨rfl, rfl, rfl⟩
          refine RL.p rfl (RL.callq (num_any b p n ws (nWk ws 1 x) hn h1 (hk 1) hb hw) Tryz.call114 rfl rfl rfl rfl rfl (.inr rfl) ?_)
          rintro _ _ _ ⟨rfl, rfl, rfl⟩
          refine RL.p rfl (RL.callq (num_any b p n ws (nWk ws 2 x) hn h1 (hk 2) hb hw) Tryz.call114 rfl rfl rfl rfl rfl (.inr rfl) ?_)
          rintro _ _ _ ⟨rfl, rfl, rfl⟩
          refine RL.p rfl (RL.callq (num_any b p n ws (nWk ws 3 x) hn h1 (hk 3) hb hw) Tryz.call114 rfl rfl rfl rfl rfl (.inr rfl) ?_)
          rintro _ _ _ ⟨rfl, rfl, rfl⟩
          refine RL.p rfl (RL.fieldAddr fa_32_3 rfl rfl rfl rfl (RL.fieldAddr fa_27_0 rfl rfl rfl rfl (RL.storeX (vs := [_]) (show spl (psC ⟨⟨g0, g1, g2, dr, ⟨s0, s1, s2, s3⟩, cm, mo, ti, gr, sd, L⟩, zs, de, ra, m, sz⟩ sl zl mp) (0 + 0 + 0 + 5 + 0) [.int .i64 (vW ws x 0)] = psC ⟨⟨g0, g1, g2, dr, ⟨vW ws x 0, s1, s2, s3⟩, cm, mo, ti, gr, sd, L⟩, zs, de, ra, m, sz⟩ sl zl mp from ps_s0 _) Tryz.sizeOf3 rfl rfl rfl rfl rfl rfl rfl rfl (by repeat (first | exact Upd.here | apply Upd.there)) (by rw [ps_len hcm]; show 0 + 0 + 0 + 5 + 0 + 1 ≤ 51; decide) ?_)))
          refine RL.p rfl (RL.fieldAddr fa_32_3 rfl rfl rfl rfl (RL.fieldAddr fa_27_1 rfl rfl rfl rfl (RL.storeX (vs := [_]) (show spl (psC ⟨⟨g0, g1, g2, dr, ⟨vW ws x 0, s1, s2, s3⟩, cm, mo, ti, gr, sd, L⟩, zs, de, ra, m, sz⟩ sl zl mp) (0 + 0 + 0 + 5 + 1) [.int .i64 (vW ws x 1)] = psC ⟨⟨g0, g1, g2, dr, ⟨vW ws x 0, vW ws x 1, s2, s3⟩, cm, mo, ti, gr, sd, L⟩, zs, de, ra, m, sz⟩ sl zl mp from ps_s1 _) Tryz.sizeOf3 rfl rfl rfl rfl rfl rfl rfl rfl (by repeat (first | exact Upd.here | apply Upd.there)) (by rw [ps_len hcm]; show 0 + 0 + 0 + 5 + 1 + 1 ≤ 51; decide) ?_)))
          refine RL.p rfl (RL.fieldAddr fa_32_3 rfl rfl rfl rfl (RL.fieldAddr fa_27_2 rfl rfl rfl rfl (RL.storeX (vs := [_]) (show spl (psC ⟨⟨g0, g1, g2, dr, ⟨vW ws x 0, vW ws x 1, s2, s3⟩, cm, mo, ti, gr, sd, L⟩, zs, de, ra, m, sz⟩ sl zl mp) (0 + 0 + 0 + 5 + 2) [.int .i64 (vW ws x 2)] = psC ⟨⟨g0, g1, g2, dr, ⟨vW ws x 0, vW ws x 1, vW ws x 2, s3⟩, cm, mo, ti, gr, sd, L⟩, zs, de, ra, m, sz⟩ sl zl mp from ps_s2 _) Tryz.sizeOf3 rfl rfl rfl rfl rfl rfl rfl rfl (by repeat (first | exact Upd.here | apply Upd.there)) (by rw [ps_len hcm]; show 0 + 0 + 0 + 5 + 2 + 1 ≤ 51; decide) ?_)))
          refine RL.p rfl (RL.fieldAddr fa_32_3 rfl rfl rfl rfl (RL.fieldAddr fa_27_3 rfl rfl rfl rfl (RL.storeX (vs := [_]) (show spl (psC ⟨⟨g0, g1, g2, dr, ⟨vW ws x 0, vW ws x 1, vW ws x 2, s3⟩, cm, mo, ti, gr, sd, L⟩, zs, de, ra, m, sz⟩ sl zl mp) (0 + 0 + 0 + 5 + 3) [.int .i64 (vW ws x 3)] = psC ⟨⟨g0, g1, g2, dr, ⟨vW ws x 0, vW ws x 1, vW ws x 2, vW ws x 3⟩, cm, mo, ti, gr, sd, L⟩, zs, de, ra, m, sz⟩ sl zl mp from ps_s3 _) Tryz.sizeOf3 rfl rfl rfl rfl rfl rfl rfl rfl (by repeat (first | exact Upd.here | apply Upd.there)) (by rw [ps_len hcm]; show 0 + 0 + 0 + 5 + 3 + 1 ≤ 51; decide) ?_)))
          refine RL.nil (NQ.block ?_)
          exact NQ.midR (⟨⟨g0, g1, g2, dr, ⟨vW ws x 0, vW ws x 1, vW ws x 2, vW ws x 3⟩, cm, mo, ti, gr, sd, L⟩, zs, de, ra, m, sz⟩, nWk ws 4 x) hq (.cons rfl (.cons rfl (.cons rfl .nil))) (fun w h => h.rea (fun _ h => h) (by repeat (first | exact Rea.nil | (apply Rea.cons; (solve | (repeat (first | exact Del.here | apply Del.there)))))))
        ·
          have h2' : nm ≠ nSlot := by simpa using e2
          refine CW.seq (CW.rg (RL.cmp rfl rfl rfl rfl rfl (fun w => eql_txt nm nCommit w) ?_))
          refine RL.p rfl (RL.nil (NQ.seq ?_))
          refine CW.cond rfl (fun e3 => ?_) (fun e3 => ?_)
          · have h3' : nm = nCommit := by simpa using e3
            have hq : oneV ws ⟨⟨g0, g1, g2, dr, ⟨s0, s1, s2, s3⟩, cm, mo, ti, gr, sd, L⟩, zs, de, ra, m, sz⟩ nm x = some (⟨⟨g0, g1, g2, dr, ⟨s0, s1, s2, s3⟩, keyV (nxW ws x), mo, ti, gr, sd, L⟩, zs, de, ra, m, sz⟩, kW ws x) := by rw [oneV, if_neg h0', if_neg h1', if_neg h2', if_pos h3']
            refine CW.region (ef := [2, 5]) (bk := [2, 5]) (RL.p rfl (RL.p rfl (RL.callq (key_any b p n ws x hn h1 hx hb hw) Tryz.call115 rfl rfl rfl rfl rfl (.inr rfl) ?_)))
            rintro _ _ _ ⟨rfl, rfl, rfl⟩
            refine RL.p rfl (RL.fieldAddr fa_32_4 rfl rfl rfl rfl (RL.storeX (vs := bytes (keyV (nxW ws x))) (show spl (psC ⟨⟨g0, g1, g2, dr, ⟨s0, s1, s2, s3⟩, cm, mo, ti, gr, sd, L⟩, zs, de, ra, m, sz⟩ sl zl mp) (0 + 0 + 0 + 9) (bytes (keyV (nxW ws x))) = psC ⟨⟨g0, g1, g2, dr, ⟨s0, s1, s2, s3⟩, keyV (nxW ws x), mo, ti, gr, sd, L⟩, zs, de, ra, m, sz⟩ sl zl mp from ps_cm hcm hkl) hs32 rfl rfl rfl rfl rfl rfl rfl (ones_map one8 _) (by repeat (first | exact Upd.here | apply Upd.there)) (by rw [ps_len hcm, List.length_map, hkl]; decide) ?_))
            refine RL.nil (NQ.block ?_)
            exact NQ.midR (⟨⟨g0, g1, g2, dr, ⟨s0, s1, s2, s3⟩, keyV (nxW ws x), mo, ti, gr, sd, L⟩, zs, de, ra, m, sz⟩, kW ws x) hq (.cons rfl (.cons rfl (.cons rfl .nil))) (fun w h => h.rea (fun _ h => h) (by repeat (first | exact Rea.nil | (apply Rea.cons; (solve | (repeat (first | exact Del.here | apply Del.there)))))))
          ·
            have h3' : nm ≠ nCommit := by simpa using e3
            refine CW.seq (CW.rg (RL.cmp rfl rfl rfl rfl rfl (fun w => eql_txt nm nLock w) ?_))
            refine RL.p rfl (RL.nil (NQ.seq (CW.ok [0, 1, 2, 6, 7, 12, 65] rfl ?_)))
            refine CW.cond rfl (fun e4 => ?_) (fun e4 => ?_)
            · have h4' : nm = nLock := by simpa using e4
              have hq : oneV ws ⟨⟨g0, g1, g2, dr, ⟨s0, s1, s2, s3⟩, cm, mo, ti, gr, sd, L⟩, zs, de, ra, m, sz⟩ nm x = some (⟨⟨g0, g1, g2, dr, ⟨s0, s1, s2, s3⟩, cm, vW ws x 0, vW ws x 1, gr, sd, L⟩, zs, de, ra, m, sz⟩, nWk ws 2 x) := by rw [oneV, if_neg h0', if_neg h1', if_neg h2', if_neg h3', if_pos h4']
              refine CW.region (ef := [3, 5, 8, 11]) (bk := [3, 5, 8, 11]) (RL.p rfl (RL.p rfl (RL.p rfl (RL.callq (num_any b p n ws x hn h1 hx hb hw) Tryz.call114 rfl rfl rfl rfl rfl (.inr rfl) ?_))))
              rintro _ _ _ ⟨rfl, rfl, rfl⟩
              refine RL.p rfl (RL.callq (num_any b p n ws (nWk ws 1 x) hn h1 (hk 1) hb hw) Tryz.call114 rfl rfl rfl rfl rfl (.inr rfl) ?_)
              rintro _ _ _ ⟨rfl, rfl, rfl⟩
              refine RL.p rfl (RL.fieldAddr fa_32_5 rfl rfl rfl rfl (RL.storeX (vs := [_]) (show spl (psC ⟨⟨g0, g1, g2, dr, ⟨s0, s1, s2, s3⟩, cm, mo, ti, gr, sd, L⟩, zs, de, ra, m, sz⟩ sl zl mp) (0 + 0 + 0 + 41) [.int .i64 (vW ws x 0)] = psC ⟨⟨g0, g1, g2, dr, ⟨s0, s1, s2, s3⟩, cm, vW ws x 0, ti, gr, sd, L⟩, zs, de, ra, m, sz⟩ sl zl mp from ps_mo hcm _) Tryz.sizeOf3 rfl rfl rfl rfl rfl rfl rfl rfl (by repeat (first | exact Upd.here | apply Upd.there)) (by rw [ps_len hcm]; show 0 + 0 + 0 + 41 + 1 ≤ 51; decide) ?_))
              refine RL.p rfl (RL.fieldAddr fa_32_6 rfl rfl rfl rfl (RL.storeX (vs := [_]) (show spl (psC ⟨⟨g0, g1, g2, dr, ⟨s0, s1, s2, s3⟩, cm, vW ws x 0, ti, gr, sd, L⟩, zs, de, ra, m, sz⟩ sl zl mp) (0 + 0 + 0 + 42) [.int .i64 (vW ws x 1)] = psC ⟨⟨g0, g1, g2, dr, ⟨s0, s1, s2, s3⟩, cm, vW ws x 0, vW ws x 1, gr, sd, L⟩, zs, de, ra, m, sz⟩ sl zl mp from ps_ti hcm _) Tryz.sizeOf3 rfl rfl rfl rfl rfl rfl rfl rfl (by repeat (first | exact Upd.here | apply Upd.there)) (by rw [ps_len hcm]; show 0 + 0 + 0 + 42 + 1 ≤ 51; decide) ?_))
              refine RL.nil (NQ.block ?_)
              exact NQ.midR (⟨⟨g0, g1, g2, dr, ⟨s0, s1, s2, s3⟩, cm, vW ws x 0, vW ws x 1, gr, sd, L⟩, zs, de, ra, m, sz⟩, nWk ws 2 x) hq (.cons rfl (.cons rfl (.cons rfl .nil))) (fun w h => h.rea (fun _ h => h) (by repeat (first | exact Rea.nil | (apply Rea.cons; (solve | (repeat (first | exact Del.here | apply Del.there)))))))
            ·
              have h4' : nm ≠ nLock := by simpa using e4
              refine CW.seq (CW.rg (RL.cmp rfl rfl rfl rfl rfl (fun w => eql_txt nm nGrace w) ?_))
              refine RL.p rfl (RL.nil (NQ.seq ?_))
              refine CW.cond rfl (fun e5 => ?_) (fun e5 => ?_)
              · have h5' : nm = nGrace := by simpa using e5
                have hq : oneV ws ⟨⟨g0, g1, g2, dr, ⟨s0, s1, s2, s3⟩, cm, mo, ti, gr, sd, L⟩, zs, de, ra, m, sz⟩ nm x = some (⟨⟨g0, g1, g2, dr, ⟨s0, s1, s2, s3⟩, cm, mo, ti, vW ws x 0, sd, L⟩, zs, de, ra, m, sz⟩, nWk ws 1 x) := by rw [oneV, if_neg h0', if_neg h1', if_neg h2', if_neg h3', if_neg h4', if_pos h5']
                refine CW.region (ef := [2, 5]) (bk := [2, 5]) (RL.p rfl (RL.p rfl (RL.callq (num_any b p n ws x hn h1 hx hb hw) Tryz.call114 rfl rfl rfl rfl rfl (.inr rfl) ?_)))
                rintro _ _ _ ⟨rfl, rfl, rfl⟩
                refine RL.p rfl (RL.fieldAddr fa_32_7 rfl rfl rfl rfl (RL.storeX (vs := [_]) (show spl (psC ⟨⟨g0, g1, g2, dr, ⟨s0, s1, s2, s3⟩, cm, mo, ti, gr, sd, L⟩, zs, de, ra, m, sz⟩ sl zl mp) (0 + 0 + 0 + 43) [.int .i64 (vW ws x 0)] = psC ⟨⟨g0, g1, g2, dr, ⟨s0, s1, s2, s3⟩, cm, mo, ti, vW ws x 0, sd, L⟩, zs, de, ra, m, sz⟩ sl zl mp from ps_gr hcm _) Tryz.sizeOf3 rfl rfl rfl rfl rfl rfl rfl rfl (by repeat (first | exact Upd.here | apply Upd.there)) (by rw [ps_len hcm]; show 0 + 0 + 0 + 43 + 1 ≤ 51; decide) ?_))
                refine RL.nil (NQ.block ?_)
                exact NQ.midR (⟨⟨g0, g1, g2, dr, ⟨s0, s1, s2, s3⟩, cm, mo, ti, vW ws x 0, sd, L⟩, zs, de, ra, m, sz⟩, nWk ws 1 x) hq (.cons rfl (.cons rfl (.cons rfl .nil))) (fun w h => h.rea (fun _ h => h) (by repeat (first | exact Rea.nil | (apply Rea.cons; (solve | (repeat (first | exact Del.here | apply Del.there)))))))
              ·
                have h5' : nm ≠ nGrace := by simpa using e5
                refine CW.seq (CW.rg (RL.cmp rfl rfl rfl rfl rfl (fun w => eql_txt nm nStride w) ?_))
                refine RL.p rfl (RL.nil (NQ.seq ?_))
                refine CW.cond rfl (fun e6 => ?_) (fun e6 => ?_)
                · have h6' : nm = nStride := by simpa using e6
                  have hq : oneV ws ⟨⟨g0, g1, g2, dr, ⟨s0, s1, s2, s3⟩, cm, mo, ti, gr, sd, L⟩, zs, de, ra, m, sz⟩ nm x = some (⟨⟨g0, g1, g2, dr, ⟨s0, s1, s2, s3⟩, cm, mo, ti, gr, (bareV (nxW ws x) : Int), L⟩, zs, de, ra, m, sz⟩, bW ws x) := by rw [oneV, if_neg h0', if_neg h1', if_neg h2', if_neg h3', if_neg h4', if_neg h5', if_pos h6']
                  refine CW.region (ef := [2, 5]) (bk := [2, 5]) (RL.p rfl (RL.p rfl (RL.callq (bare_any b p n ws x hn h1 hx hb hw) Tryz.call118 rfl rfl rfl rfl rfl (.inr rfl) ?_)))
                  rintro _ _ _ ⟨rfl, rfl, rfl⟩
                  refine RL.p rfl (RL.fieldAddr fa_32_8 rfl rfl rfl rfl (RL.storeX (vs := [_]) (show spl (psC ⟨⟨g0, g1, g2, dr, ⟨s0, s1, s2, s3⟩, cm, mo, ti, gr, sd, L⟩, zs, de, ra, m, sz⟩ sl zl mp) (0 + 0 + 0 + 44) [.int .u64 ((bareV (nxW ws x) : Int))] = psC ⟨⟨g0, g1, g2, dr, ⟨s0, s1, s2, s3⟩, cm, mo, ti, gr, (bareV (nxW ws x) : Int), L⟩, zs, de, ra, m, sz⟩ sl zl mp from ps_sd hcm _) Tryz.sizeOf30 rfl rfl rfl rfl rfl rfl rfl rfl (by repeat (first | exact Upd.here | apply Upd.there)) (by rw [ps_len hcm]; show 0 + 0 + 0 + 44 + 1 ≤ 51; decide) ?_))
                  refine RL.nil (NQ.block ?_)
                  exact NQ.midR (⟨⟨g0, g1, g2, dr, ⟨s0, s1, s2, s3⟩, cm, mo, ti, gr, (bareV (nxW ws x) : Int), L⟩, zs, de, ra, m, sz⟩, bW ws x) hq (.cons rfl (.cons rfl (.cons rfl .nil))) (fun w h => h.rea (fun _ h => h) (by repeat (first | exact Rea.nil | (apply Rea.cons; (solve | (repeat (first | exact Del.here | apply Del.there)))))))
                ·
                  have h6' : nm ≠ nStride := by simpa using e6
                  refine CW.seq (CW.rg (RL.cmp rfl rfl rfl rfl rfl (fun w => eql_txt nm nClock w) ?_))
                  refine RL.p rfl (RL.nil (NQ.seq (CW.ok [0, 1, 2, 6, 7, 12, 91] rfl ?_)))
                  refine CW.cond rfl (fun e7 => ?_) (fun e7 => ?_)
                  · have h7' : nm = nClock := by simpa using e7
                    have hq : oneV ws ⟨⟨g0, g1, g2, dr, ⟨s0, s1, s2, s3⟩, cm, mo, ti, gr, sd, L⟩, zs, de, ra, m, sz⟩ nm x = some (⟨⟨g0, g1, g2, dr, ⟨s0, s1, s2, s3⟩, cm, mo, ti, gr, sd, L⟩, zs, vW ws x 0, vW ws x 1, vW ws x 2, sz⟩, nWk ws 3 x) := by rw [oneV, if_neg h0', if_neg h1', if_neg h2', if_neg h3', if_neg h4', if_neg h5', if_neg h6', if_pos h7']
                    refine CW.region (ef := [4, 6, 8, 12, 16, 20]) (bk := [4, 6, 8, 12, 16, 20]) (RL.p rfl (RL.p rfl (RL.p rfl (RL.p rfl (RL.callq (num_any b p n ws x hn h1 hx hb hw) Tryz.call114 rfl rfl rfl rfl rfl (.inr rfl) ?_)))))
                    rintro _ _ _ ⟨rfl, rfl, rfl⟩
                    refine RL.p rfl (RL.callq (num_any b p n ws (nWk ws 1 x) hn h1 (hk 1) hb hw) Tryz.call114 rfl rfl rfl rfl rfl (.inr rfl) ?_)
                    rintro _ _ _ ⟨rfl, rfl, rfl⟩
                    refine RL.p rfl (RL.callq (num_any b p n ws (nWk ws 2 x) hn h1 (hk 2) hb hw) Tryz.call114 rfl rfl rfl rfl rfl (.inr rfl) ?_)
                    rintro _ _ _ ⟨rfl, rfl, rfl⟩
                    refine RL.p rfl (RL.fieldAddr fa_124_0 rfl rfl rfl rfl (RL.fieldAddr fa_35_2 rfl rfl rfl rfl (RL.storeX (vs := [_]) (show spl (psC ⟨⟨g0, g1, g2, dr, ⟨s0, s1, s2, s3⟩, cm, mo, ti, gr, sd, L⟩, zs, de, ra, m, sz⟩ sl zl mp) (0 + 0 + 46) [.int .i64 (vW ws x 0)] = psC ⟨⟨g0, g1, g2, dr, ⟨s0, s1, s2, s3⟩, cm, mo, ti, gr, sd, L⟩, zs, vW ws x 0, ra, m, sz⟩ sl zl mp from ps_de hcm _) Tryz.sizeOf3 rfl rfl rfl rfl rfl rfl rfl rfl (by repeat (first | exact Upd.here | apply Upd.there)) (by rw [ps_len hcm]; show 0 + 0 + 46 + 1 ≤ 51; decide) ?_)))
                    refine RL.p rfl (RL.fieldAddr fa_124_0 rfl rfl rfl rfl (RL.fieldAddr fa_35_3 rfl rfl rfl rfl (RL.storeX (vs := [_]) (show spl (psC ⟨⟨g0, g1, g2, dr, ⟨s0, s1, s2, s3⟩, cm, mo, ti, gr, sd, L⟩, zs, vW ws x 0, ra, m, sz⟩ sl zl mp) (0 + 0 + 47) [.int .i64 (vW ws x 1)] = psC ⟨⟨g0, g1, g2, dr, ⟨s0, s1, s2, s3⟩, cm, mo, ti, gr, sd, L⟩, zs, vW ws x 0, vW ws x 1, m, sz⟩ sl zl mp from ps_ra hcm _) Tryz.sizeOf3 rfl rfl rfl rfl rfl rfl rfl rfl (by repeat (first | exact Upd.here | apply Upd.there)) (by rw [ps_len hcm]; show 0 + 0 + 47 + 1 ≤ 51; decide) ?_)))
                    refine RL.p rfl (RL.fieldAddr fa_124_0 rfl rfl rfl rfl (RL.fieldAddr fa_35_4 rfl rfl rfl rfl (RL.storeX (vs := [_]) (show spl (psC ⟨⟨g0, g1, g2, dr, ⟨s0, s1, s2, s3⟩, cm, mo, ti, gr, sd, L⟩, zs, vW ws x 0, vW ws x 1, m, sz⟩ sl zl mp) (0 + 0 + 48) [.int .i64 (vW ws x 2)] = psC ⟨⟨g0, g1, g2, dr, ⟨s0, s1, s2, s3⟩, cm, mo, ti, gr, sd, L⟩, zs, vW ws x 0, vW ws x 1, vW ws x 2, sz⟩ sl zl mp from ps_m hcm _) Tryz.sizeOf3 rfl rfl rfl rfl rfl rfl rfl rfl (by repeat (first | exact Upd.here | apply Upd.there)) (by rw [ps_len hcm]; show 0 + 0 + 48 + 1 ≤ 51; decide) ?_)))
                    refine RL.nil (NQ.block ?_)
                    exact NQ.midR (⟨⟨g0, g1, g2, dr, ⟨s0, s1, s2, s3⟩, cm, mo, ti, gr, sd, L⟩, zs, vW ws x 0, vW ws x 1, vW ws x 2, sz⟩, nWk ws 3 x) hq (.cons rfl (.cons rfl (.cons rfl .nil))) (fun w h => h.rea (fun _ h => h) (by repeat (first | exact Rea.nil | (apply Rea.cons; (solve | (repeat (first | exact Del.here | apply Del.there)))))))
                  ·
                    have h7' : nm ≠ nClock := by simpa using e7
                    refine CW.seq (CW.rg (RL.cmp rfl rfl rfl rfl rfl (fun w => eql_txt nm nTrace w) ?_))
                    refine RL.p rfl (RL.nil (NQ.seq ?_))
                    refine CW.cond rfl (fun e8 => ?_) (fun e8 => ?_)
                    · have h8' : nm = nTrace := by simpa using e8
                      have hq : oneV ws ⟨⟨g0, g1, g2, dr, ⟨s0, s1, s2, s3⟩, cm, mo, ti, gr, sd, L⟩, zs, de, ra, m, sz⟩ nm x = some (⟨⟨g0, g1, g2, dr, ⟨s0, s1, s2, s3⟩, cm, mo, ti, gr, sd, L⟩, zs, de, ra, m, vW ws x 0⟩, nWk ws 1 x) := by rw [oneV, if_neg h0', if_neg h1', if_neg h2', if_neg h3', if_neg h4', if_neg h5', if_neg h6', if_neg h7', if_pos h8']
                      refine CW.region (ef := [2, 6]) (bk := [2, 6]) (RL.p rfl (RL.p rfl (RL.callq (num_any b p n ws x hn h1 hx hb hw) Tryz.call114 rfl rfl rfl rfl rfl (.inr rfl) ?_)))
                      rintro _ _ _ ⟨rfl, rfl, rfl⟩
                      refine RL.p rfl (RL.fieldAddr fa_124_0 rfl rfl rfl rfl (RL.fieldAddr fa_35_5 rfl rfl rfl rfl (RL.storeX (vs := [_]) (show spl (psC ⟨⟨g0, g1, g2, dr, ⟨s0, s1, s2, s3⟩, cm, mo, ti, gr, sd, L⟩, zs, de, ra, m, sz⟩ sl zl mp) (0 + 0 + 49) [.int .i64 (vW ws x 0)] = psC ⟨⟨g0, g1, g2, dr, ⟨s0, s1, s2, s3⟩, cm, mo, ti, gr, sd, L⟩, zs, de, ra, m, vW ws x 0⟩ sl zl mp from ps_sz hcm _) Tryz.sizeOf3 rfl rfl rfl rfl rfl rfl rfl rfl (by repeat (first | exact Upd.here | apply Upd.there)) (by rw [ps_len hcm]; show 0 + 0 + 49 + 1 ≤ 51; decide) ?_)))
                      refine RL.nil (NQ.block ?_)
                      exact NQ.midR (⟨⟨g0, g1, g2, dr, ⟨s0, s1, s2, s3⟩, cm, mo, ti, gr, sd, L⟩, zs, de, ra, m, vW ws x 0⟩, nWk ws 1 x) hq (.cons rfl (.cons rfl (.cons rfl .nil))) (fun w h => h.rea (fun _ h => h) (by repeat (first | exact Rea.nil | (apply Rea.cons; (solve | (repeat (first | exact Del.here | apply Del.there)))))))
                    ·
                      have h8' : nm ≠ nTrace := by simpa using e8
                      refine CW.seq (CW.rg (RL.p rfl (RL.nil (NQ.seq (CW.ret (RQ.block ?_))))))
                      exact RQ.midR (RQ.post (res1 rfl rfl) (.keep (.keep (.keep .nil))) (.inl ⟨by rw [oneV, if_neg h0', if_neg h1', if_neg h2', if_neg h3', if_neg h4', if_neg h5', if_neg h6', if_neg h7', if_neg h8'], rfl, rfl, rfl⟩))
  rintro ⟨P', x'⟩ hq
  dsimp only
  have hnm := hone _ hq
  have hc' := hcmq _ hq
  have hmap : (psC P' sl zl mp)[0 + 50]? = some (.map (some mp)) := by
    rw [psC, List.getElem?_append_right (by rw [cf_len hc']; decide), cf_len hc']; rfl
  refine CW.seq (CW.seq (CW.rg (RL.p rfl (RL.p rfl (RL.fieldAddr fa_124_1 rfl rfl rfl rfl (RL.load Tryz.isAgg122 rfl rfl rfl rfl (Rd.get (by repeat (first | exact List.Mem.head _ | apply List.Mem.tail)) hmap) ?_))))))
  refine RL.p rfl (RL.lookup keyS Tryz.runUnderlying122 Tryz.zeroValue4 rfl rfl rfl rfl rfl ⟨nm, rfl⟩ (MapAt.own (by repeat (first | exact List.Mem.head _ | apply List.Mem.tail))) ?_)
  rw [look_S hnm]
  refine RL.nil (NQ.seq (CW.ok [0, 1, 124] rfl ?_))
  refine CW.cond rfl (fun hs => ?_) (fun hs => ?_)
  ·
    refine CW.seq (CW.rg (RL.p rfl (RL.nil (NQ.seq (CW.ret (RQ.seq ?_))))))
    have hs' : nm ∈ seen := by simpa using hs
    exact RQ.post (res1 rfl rfl) (.keep (.keep (.keep .nil))) (.inr ⟨_, hq, by rw [decide_eq_false (fun h => h hs')], rfl, by rw [if_pos hs']⟩)
  ·
    refine CW.skip (NQ.seq (CW.seq (CW.region (ef := [5]) (bk := [5]) (RL.p rfl (RL.p rfl (RL.fieldAddr fa_124_1 rfl rfl rfl rfl (RL.load Tryz.isAgg122 rfl rfl rfl rfl (Rd.get (by repeat (first | exact List.Mem.head _ | apply List.Mem.tail)) hmap) ?_)))))))
    refine RL.p rfl (RL.mapUpdate keyS Tryz.runUnderlying122 rfl rfl rfl rfl rfl rfl rfl ⟨nm, rfl⟩ (by repeat (first | exact Upd.here | apply Upd.there)) ?_)
    refine RL.nil (NQ.seq (CW.ok [] rfl (CW.seq (CW.rg (RL.p rfl (RL.nil (NQ.seq (CW.ret ?_))))))))
    have hs' : nm ∉ seen := by simpa using hs
    exact RQ.post (res1 rfl rfl) (.keep (.keep (.keep .nil))) (.inr ⟨_, hq, by rw [decide_eq_true hs'], rfl, by rw [if_neg hs', ← set_S hnm hs']⟩)
end Go.Proofs.YthndhipjfdgdfaaGreatDoor
