import Derived.Test.YthndhipjfdgdfaaGreatDoorBA
import Derived.Test.YthndhipjfdgdfaaGreatDoorXA
set_option linter.unusedVariables false
set_option linter.unusedSimpArgs false
namespace Go.Proofs.YthndhipjfdgdfaaGreatDoor
open Go.PK
/-! ### The reference's numbers and keys, written -/
def rowT (nm : Tx) (l : List Int) : Tx := nm ++ l.flatMap fun v => 32#8 :: itoT v
theorem rowT_jn (nm : Tx) : ∀ l : List Int, jnL 32#8 (nm :: l.map itoT) = rowT nm l
  | [] => by simp [jnL, rowT]
  | v :: r => by
    have h := rowT_jn (itoT v) r
    rw [List.map_cons, jnL, h, rowT, rowT, List.flatMap_cons, List.cons_append]
theorem rowT_step {nm : Tx} {l : List Int} {i : Nat} {v : Int} (h : l[i]? = some v) : rowT nm (l.take (i + 1)) = rowT nm (l.take i) ++ (32#8 :: itoT v) := by
  rw [List.take_add_one, h, rowT, rowT, List.flatMap_append]; simp
theorem rowT_len {nm : Tx} {l : List Int} (h : ∀ v ∈ l, i64 v) : (rowT nm l).length ≤ nm.length + 22 * l.length := by
  rw [rowT, List.length_append]
  refine Nat.add_le_add_left ?_ _
  induction l with
  | nil => exact Nat.le_refl _
  | cons v r ih =>
    have h1 := itoT_len (h v (List.mem_cons_self ..))
    have h2 := ih fun x hx => h x (List.mem_cons_of_mem _ hx)
    rw [List.flatMap_cons, List.length_append, List.length_cons, List.length_cons]; omega
theorem tmodN (m : Nat) : Int.tmod (m : Int) 10 = ((m % 10 : Nat) : Int) := rfl
theorem tdivN (m : Nat) : Int.tdiv (m : Int) 10 = ((m / 10 : Nat) : Int) := rfl
theorem u8dg (m : Nat) : IntKind.wrap .u8 (48 + ((m % 10 : Nat) : Int)) = ((dgc m).toNat : Int) := by
  rw [dgc_toNat]; simp [IntKind.wrap, IntKind.bits, IntKind.signed]; omega
theorem wrapU {x : Int} (h1 : 0 ≤ x) (h2 : x < 18446744073709551616) : IntKind.wrap .u64 x = x := by
  simp [IntKind.wrap, IntKind.bits, IntKind.signed]; omega
theorem wrapV_u64 {n : Int} (h1 : 0 ≤ n) (h2 : n ≤ 18446744073709551615) : Value.int .u64 (IntKind.u64.wrap n) = .int .u64 n := by rw [wrapU h1 (by omega)]
theorem rdig_any (n : Nat) (hn : n < 18446744073709551616) : Spc Tryz.prog 36 #[.int .u64 (n : Int)] [] [] (Is (strV (decT n))) := by
  refine Spc.enter Tryz.func36 rfl rfl rfl (fun w0 hw0 => ?_)
  refine CW.seq (CW.rg (RL.p rfl (RL.nil (NQ.seq (CW.seq (CW.rg (RL.p rfl (RL.nil (NQ.seq (CW.seq (CW.block (CW.loop (γ := Nat × Nat × Tx) (fun g => (g.2.1 < 10 ^ g.1 ∧ g.2.1 ≤ n ∧ g.2.2.length + g.1 = 20) ∧ dgs g.1 g.2.1 g.2.2 = dgs 20 n []) (fun g => [(0, .int .u64 (g.2.1 : Int)), (3, strV g.2.2)]) (fun _ => []) (fun _ => []) (fun g => g.2.1) (20, n, []) ⟨⟨by show n < 10 ^ 20; omega, Nat.le_refl _, rfl⟩, rfl⟩ (.cons rfl (.cons rfl .nil)) (fun w h => h.rea (fun _ h => h) (by repeat (first | exact Rea.nil | (apply Rea.cons; (solve | (repeat (first | exact Del.here | apply Del.there))))))) ?_))))))))))))
  rintro ⟨f, m, acc⟩ ⟨⟨hm, hmn, hl⟩, hd⟩
  dsimp only at hm hmn hl hd ⊢
  refine CW.seq (CW.seq (CW.rg (RL.p rfl (RL.p rfl (RL.nil (NQ.seq ?_))))))
  refine CW.cond rfl (fun h0 => ?_) (fun h0 => ?_)
  · have h0' : m ≠ 0 := by simp at h0; omega
    obtain ⟨f, rfl⟩ : ∃ k, f = k + 1 := by
      cases f with
      | zero => exact absurd hm (by simp; omega)
      | succ k => exact ⟨k, rfl⟩
    rw [dgs_step h0'] at hd
    have hm' : m / 10 < 10 ^ f := by rw [Nat.pow_succ] at hm; omega
    refine CW.skip (NQ.seq (CW.block (CW.seq (CW.region (ef := [4]) (bk := []) (RL.p rfl (RL.rem rfl rfl rfl rfl rfl (by decide) ?_))))))
    refine RL.cast (d := 7) (v' := .int .u64 ((m % 10 : Nat) : Int)) rfl (by rw [← tmodN]) ?_
    refine RL.bx rfl (wrapV_u64 (by omega) (by omega)) ?_
    refine RL.conv Tryz.runUnderlying30 Tryz.runUnderlying5 rfl rfl rfl rfl (RL.cast (d := 9) (v' := U8 (dgc m)) rfl (by rw [u8dg]; rfl) ?_)
    refine RL.buildSlice [_] Tryz.runUnderlying83 Tryz.sizeOf5 Tryz.zeroValue5 rfl rfl (by decide) (by decide) rfl rfl rfl rfl rfl rfl ?_
    intro b1
    refine RL.bytesStr (bs := [dgc m]) (e := 5) (by kernel_rfl) (by kernel_rfl) (by kernel_rfl) rfl rfl rfl rfl (Src.cel (cs := [U8 (dgc m)]) (by repeat (first | exact List.Mem.head _ | apply List.Mem.tail)) rfl) ?_
    refine RL.p rfl (RL.addTxt (a := [dgc m]) (b := acc) rfl rfl rfl rfl rfl (by show 1 + _ ≤ _; omega) ?_)
    refine RL.p rfl (RL.nil (NQ.seq (CW.ok [0, 3] rfl (CW.rg (RL.p rfl (RL.quo rfl rfl rfl rfl rfl (by decide) ?_))))))
    refine RL.cast (d := 15) (v' := .int .u64 ((m / 10 : Nat) : Int)) rfl (by rw [tdivN, wrapU (by omega) (by omega)]) ?_
    refine RL.p rfl (RL.nil (NQ.block ?_))
    refine NQ.round (g := (f + 1, m, acc)) (f, m / 10, [dgc m] ++ acc) ⟨⟨hm', by show m / 10 ≤ n; omega, by show (dgc m :: acc).length + f = 20; rw [List.length_cons]; omega⟩, hd⟩ (by show m / 10 < m; omega) (.cons rfl (.cons rfl .nil)) (fun w h => h.rea (fun _ h => h) (by repeat (first | exact Rea.nil | (apply Rea.cons; (solve | (repeat (first | exact Del.here | apply Del.there)))))))
  · have h0' : m = 0 := by simp at h0; omega
    subst h0'
    rw [dgs_zero] at hd
    refine CW.exit (XQ.seq (XQ.seq (XQ.hit (NQ.seq (CW.seq (CW.seq (CW.rg (RL.p rfl (RL.cmp rfl rfl rfl rfl rfl (fun w => eql_txt acc [] w) ?_)))))))))
    refine RL.nil (NQ.seq ?_)
    refine CW.cond rfl (fun he => ?_) (fun he => ?_)
    · have he' : acc = [] := by simpa using he
      have hn0 : n = 0 := by
        rcases Nat.eq_zero_or_pos n with h | h
        · exact h
        · exfalso
          have h1 := decT_ne n (by omega)
          rw [decT, beq_f (by omega)] at h1
          exact h1 (by show dgs 20 n [] = []; rw [← hd, he'])
      subst hn0
      refine CW.seq (CW.rg (RL.p rfl (RL.nil (NQ.seq (CW.ret (RQ.seq ?_))))))
      exact RQ.post (res1 rfl rfl) (Split.none _) ⟨rfl, rfl, rfl⟩
    · have he' : ¬ acc = [] := by simpa using he
      refine CW.skip (NQ.seq (CW.seq (CW.rg (RL.p rfl (RL.p rfl (RL.nil (NQ.seq (CW.ok [2] rfl (CW.ret ?_)))))))))
      refine RQ.post (res1 rfl rfl) (Split.none _) ⟨?_, rfl, rfl⟩
      have hn0 : n ≠ 0 := fun h => he' (by rw [hd, h]; rfl)
      rw [hd, decT, beq_f hn0]; rfl
def sgN (n : Int) (m : Nat) : Int := if n < 0 then -(m : Int) else m
theorem sgN_mod (n : Int) (m : Nat) : Int.tmod (sgN n m) 10 = sgN n (m % 10) := by
  unfold sgN; split
  · rw [Int.neg_tmod, tmodN]
  · rw [tmodN]
theorem sgN_div (n : Int) (m : Nat) : Int.tdiv (sgN n m) 10 = sgN n (m / 10) := by
  unfold sgN; split
  · rw [Int.neg_tdiv, tdivN]
  · rw [tdivN]
theorem rito_any (n : Int) (hn : i64 n) : Spc Tryz.prog 68 #[.int .i64 n] [] [] (Is (strV (itoT n))) := by
  obtain ⟨hn1, hn2⟩ := hn
  refine Spc.enter Tryz.func68 rfl rfl rfl (fun w0 hw0 => ?_)
  refine CW.seq (CW.rg (RL.p rfl (RL.nil (NQ.seq (CW.seq (CW.seq (CW.rg (RL.p rfl (RL.p rfl (RL.nil (NQ.seq ?_)))))))))))
  refine CW.cond rfl (fun hz => ?_) (fun hz => ?_)
  · have hz' : n = 0 := by simpa using hz
    subst hz'
    refine CW.seq (CW.rg (RL.p rfl (RL.nil (NQ.seq (CW.ret (RQ.seq ?_))))))
    exact RQ.post (res1 rfl rfl) (Split.none _) ⟨rfl, rfl, rfl⟩
  · have hz' : n ≠ 0 := by simpa using hz
    have hna : n = sgN n n.natAbs := by unfold sgN; split <;> omega
    refine CW.skip (NQ.seq (CW.seq (CW.rg (RL.p rfl (RL.p rfl (RL.p rfl (RL.nil (NQ.seq (CW.seq (CW.block (CW.loop (γ := Nat × Nat × Tx) (fun g => (g.2.1 < 10 ^ g.1 ∧ g.2.1 ≤ n.natAbs ∧ g.2.2.length + g.1 = 20) ∧ dgs g.1 g.2.1 g.2.2 = dgs 20 n.natAbs []) (fun g => [(0, .int .i64 n), (3, strV g.2.2), (4, .int .i64 (sgN n g.2.1))]) (fun _ => []) (fun _ => []) (fun g => g.2.1) (20, n.natAbs, []) ⟨⟨by show n.natAbs < 10 ^ 20; omega, Nat.le_refl _, rfl⟩, rfl⟩ (.cons rfl (.cons rfl (.cons (k := 4) (by rw [← hna]; rfl) .nil))) (fun w h => h.rea (fun _ h => h) (by repeat (first | exact Rea.nil | (apply Rea.cons; (solve | (repeat (first | exact Del.here | apply Del.there))))))) ?_)))))))))))
    rintro ⟨f, m, acc⟩ ⟨⟨hm, hmn, hl⟩, hd⟩
    dsimp only at hm hmn hl hd ⊢
    refine CW.seq (CW.seq (CW.rg (RL.p rfl (RL.p rfl (RL.nil (NQ.seq ?_))))))
    refine CW.cond rfl (fun h0 => ?_) (fun h0 => ?_)
    · have h0' : m ≠ 0 := by rintro rfl; simp [sgN] at h0
      obtain ⟨f, rfl⟩ : ∃ k, f = k + 1 := by
        cases f with
        | zero => exact absurd hm (by simp; omega)
        | succ k => exact ⟨k, rfl⟩
      rw [dgs_step h0'] at hd
      have hm' : m / 10 < 10 ^ f := by rw [Nat.pow_succ] at hm; omega
      have hq1 : -9223372036854775808 ≤ sgN n (m / 10) := by unfold sgN; split <;> omega
      have hq2 : sgN n (m / 10) ≤ 9223372036854775807 := by unfold sgN; split <;> omega
      refine CW.skip (NQ.seq (CW.block (CW.seq (CW.rg (RL.p rfl (RL.rem rfl rfl rfl rfl rfl (by decide) ?_))))))
      refine RL.cast (d := 12) (v' := .int .i64 (sgN n (m % 10))) rfl (by rw [sgN_mod]) ?_
      refine RL.p rfl (RL.nil (NQ.seq (CW.seq (CW.seq (CW.rg (RL.p rfl (RL.p rfl (RL.nil (NQ.seq ?_)))))))))
      refine CW.cond rfl (fun hs => ?_) (fun hs => ?_)
      · have hs' : sgN n (m % 10) < 0 := by simpa using hs
        have hs2 : -sgN n (m % 10) = ((m % 10 : Nat) : Int) := by revert hs'; unfold sgN; split <;> intros <;> omega
        refine CW.rg (RL.p rfl (RL.neg rfl rfl rfl rfl (RL.cast (d := 16) (v' := .int .i64 ((m % 10 : Nat) : Int)) rfl (by rw [show (0 : Int) - sgN n (m % 10) = ((m % 10 : Nat) : Int) by omega, wrapV_i64 (by omega) (by omega)]) ?_)))
        refine RL.p rfl (RL.nil (NQ.seq (CW.ok [0, 3, 4, 5] rfl (CW.seq (CW.region (ef := [3]) (bk := []) (RL.p rfl (RL.bx rfl (wrapV_i64 (by omega) (by omega)) ?_)))))))
        refine RL.conv Tryz.runUnderlying3 Tryz.runUnderlying5 rfl rfl rfl rfl (RL.cast (d := 19) (v' := U8 (dgc m)) rfl (by rw [u8dg]; rfl) ?_)
        refine RL.buildSlice [_] Tryz.runUnderlying83 Tryz.sizeOf5 Tryz.zeroValue5 rfl rfl (by decide) (by decide) rfl rfl rfl rfl rfl rfl ?_
        intro b1
        refine RL.bytesStr (bs := [dgc m]) (e := 5) (by kernel_rfl) (by kernel_rfl) (by kernel_rfl) rfl rfl rfl rfl (Src.cel (cs := [U8 (dgc m)]) (by repeat (first | exact List.Mem.head _ | apply List.Mem.tail)) rfl) ?_
        refine RL.p rfl (RL.addTxt (a := [dgc m]) (b := acc) rfl rfl rfl rfl rfl (by show 1 + _ ≤ _; omega) ?_)
        refine RL.p rfl (RL.nil (NQ.seq (CW.ok [0, 3, 4] rfl (CW.rg (RL.p rfl (RL.quo rfl rfl rfl rfl rfl (by decide) ?_))))))
        refine RL.cast (d := 25) (v' := .int .i64 (sgN n (m / 10))) rfl (by rw [sgN_div, (wrapV_i64 hq1 hq2)]) ?_
        refine RL.p rfl (RL.nil (NQ.block ?_))
        refine NQ.round (g := (f + 1, m, acc)) (f, m / 10, [dgc m] ++ acc) ⟨⟨hm', by show m / 10 ≤ n.natAbs; omega, by show (dgc m :: acc).length + f = 20; rw [List.length_cons]; omega⟩, hd⟩ (by show m / 10 < m; omega) (.cons rfl (.cons rfl (.cons rfl .nil))) (fun w h => h.rea (fun _ h => h) (by repeat (first | exact Rea.nil | (apply Rea.cons; (solve | (repeat (first | exact Del.here | apply Del.there)))))))
      · have hs' : ¬ sgN n (m % 10) < 0 := by simpa using hs
        have hs2 : sgN n (m % 10) = ((m % 10 : Nat) : Int) := by revert hs'; unfold sgN; split <;> intros <;> omega
        rw [hs2]
        refine CW.skip (NQ.seq (CW.ok [0, 3, 4, 5] rfl (CW.seq (CW.region (ef := [3]) (bk := []) (RL.p rfl (RL.bx rfl (wrapV_i64 (by omega) (by omega)) ?_))))))
        refine RL.conv Tryz.runUnderlying3 Tryz.runUnderlying5 rfl rfl rfl rfl (RL.cast (d := 19) (v' := U8 (dgc m)) rfl (by rw [u8dg]; rfl) ?_)
        refine RL.buildSlice [_] Tryz.runUnderlying83 Tryz.sizeOf5 Tryz.zeroValue5 rfl rfl (by decide) (by decide) rfl rfl rfl rfl rfl rfl ?_
        intro b1
        refine RL.bytesStr (bs := [dgc m]) (e := 5) (by kernel_rfl) (by kernel_rfl) (by kernel_rfl) rfl rfl rfl rfl (Src.cel (cs := [U8 (dgc m)]) (by repeat (first | exact List.Mem.head _ | apply List.Mem.tail)) rfl) ?_
        refine RL.p rfl (RL.addTxt (a := [dgc m]) (b := acc) rfl rfl rfl rfl rfl (by show 1 + _ ≤ _; omega) ?_)
        refine RL.p rfl (RL.nil (NQ.seq (CW.ok [0, 3, 4] rfl (CW.rg (RL.p rfl (RL.quo rfl rfl rfl rfl rfl (by decide) ?_))))))
        refine RL.cast (d := 25) (v' := .int .i64 (sgN n (m / 10))) rfl (by rw [sgN_div, (wrapV_i64 hq1 hq2)]) ?_
        refine RL.p rfl (RL.nil (NQ.block ?_))
        refine NQ.round (g := (f + 1, m, acc)) (f, m / 10, [dgc m] ++ acc) ⟨⟨hm', by show m / 10 ≤ n.natAbs; omega, by show (dgc m :: acc).length + f = 20; rw [List.length_cons]; omega⟩, hd⟩ (by show m / 10 < m; omega) (.cons rfl (.cons rfl (.cons rfl .nil))) (fun w h => h.rea (fun _ h => h) (by repeat (first | exact Rea.nil | (apply Rea.cons; (solve | (repeat (first | exact Del.here | apply Del.there)))))))
    · have h0' : m = 0 := by
        have : sgN n m = 0 := by simpa using h0
        revert this; unfold sgN; split <;> intros <;> omega
      subst h0'
      rw [dgs_zero] at hd
      have hdc : decT n.natAbs = acc := by rw [decT, beq_f (by omega), hd]; rfl
      refine CW.exit (XQ.seq (XQ.seq (XQ.hit (NQ.seq (CW.seq (CW.seq (CW.rg (RL.p rfl (RL.p rfl (RL.nil (NQ.seq ?_)))))))))))
      refine CW.cond rfl (fun hneg => ?_) (fun hneg => ?_)
      · have hneg' : n < 0 := by simpa using hneg
        refine CW.rg (RL.p rfl (RL.addTxt (a := [45#8]) (b := acc) rfl rfl rfl rfl rfl (by show 1 + _ ≤ _; omega) ?_))
        refine RL.p rfl (RL.nil (NQ.seq (CW.ok [3] rfl (CW.seq (CW.rg (RL.p rfl (RL.p rfl (RL.nil (NQ.seq (CW.ret ?_))))))))))
        exact RQ.post (res1 rfl rfl) (Split.none _) ⟨by rw [itoT, if_pos hneg', hdc]; rfl, rfl, rfl⟩
      · have hneg' : ¬ n < 0 := by simpa using hneg
        refine CW.skip (NQ.seq (CW.ok [3] rfl (CW.seq (CW.rg (RL.p rfl (RL.p rfl (RL.nil (NQ.seq (CW.ret ?_)))))))))
        exact RQ.post (res1 rfl rfl) (Split.none _) ⟨by rw [itoT, if_neg hneg', show n.toNat = n.natAbs by omega, hdc], rfl, rfl⟩
theorem rrow_any (nm : Tx) (p : Option Addr) (c m : Nat) (l : List Int) (hm : l.length = m) (hl : ∀ v ∈ l, i64 v) (hb : m ≤ 1000000) (hnm : nm.length ≤ 1000) : Spc Tryz.prog 34 #[strV nm, .slice p m c] [sls p 1 m (ints l)] [] (Is (strV (rowT nm l))) := by
  subst hm
  refine Spc.enter Tryz.func34 rfl rfl rfl (fun w0 hw0 => ?_)
  refine CW.seq (CW.rg (RL.p rfl (RL.nil (NQ.seq (CW.seq (CW.rg (RL.p rfl (RL.p rfl (RL.nil (NQ.seq (CW.seq (CW.seq (CW.rg ?_)))))))))))))
  refine RL.p rfl (RL.nil (NQ.seq (CW.block ?_)))
  refine CW.genI (fun J hJ => ?_)
  have m2 : sls p 1 l.length (ints l) ∈ J := hJ _ (by simp)
  clear hJ
  refine CW.loop (γ := Nat) (fun i => i ≤ l.length) (fun i => [(1, .slice p l.length c), (5, strV (rowT nm (l.take i))), (6, .int .i64 (i : Int))]) (fun _ => J) (fun _ => []) (fun i => l.length - i) 0 (Nat.zero_le _) (.cons rfl (.cons (k := 5) (by rw [show rowT nm (l.take 0) = nm by simp [rowT]]; rfl) (.cons rfl .nil))) (fun w h => h.rea (fun _ h => h) (by repeat (first | exact Rea.nil | (apply Rea.cons; (solve | (repeat (first | exact Del.here | apply Del.there))))))) ?_
  intro i hi
  refine CW.fact (p := p = none → l.length = 0) (fun w hC e => sls_nil (hC.s.i _ m2) e) (fun hpa => ?_)
  refine CW.seq (CW.seq (CW.rg (RL.p rfl (RL.p rfl (RL.lenS Tryz.runUnderlying61 rfl rfl rfl rfl (RL.p rfl (RL.nil (NQ.seq ?_))))))))
  refine CW.cond rfl (fun hlt => ?_) (fun hlt => ?_)
  ·
    have hlt : i < l.length := by simp at hlt; omega
    cases p with
    | none => exact absurd (hpa rfl) (by omega)
    | some a =>
    have hx := List.getElem?_eq_getElem hlt
    generalize l[i] = x at hx
    have hst := rowT_step (nm := nm) hx
    have hxi := hl x (List.mem_of_getElem? hx)
    have hxl := itoT_len hxi
    have hrl := rowT_len (nm := nm) (l := l.take i) (fun v hv => hl v (List.mem_of_mem_take hv))
    rw [List.length_take] at hrl
    have f1 := RdI.sls m2 hx
    refine CW.skip (NQ.seq (CW.seq (CW.block (CW.rg (RL.p rfl (RL.p rfl (RL.p rfl ?_)))))))
    first | refine RL.idxAt (j := i) Tryz.runUnderlying61 Tryz.sizeOf3 rfl rfl rfl rfl rfl rfl (hlt) ?_ | refine RL.idx (j := i) Tryz.runUnderlying61 Tryz.sizeOf3 rfl rfl rfl rfl rfl rfl (hlt) ?_
    refine RL.loadq Tryz.isAgg3 rfl rfl rfl rfl ?_
    refine RL.callvq (rito_any x hxi) Tryz.call68 rfl rfl rfl rfl ?_
    refine RL.addTxt (a := [32#8]) (b := itoT x) rfl rfl rfl rfl rfl (by show 1 + _ ≤ _; omega) ?_
    refine RL.addTxt (a := rowT nm (l.take i)) (b := [32#8] ++ itoT x) rfl rfl rfl rfl rfl (by show _ + (itoT x).length.succ ≤ _; omega) ?_
    refine RL.p rfl (RL.nil (NQ.block (NQ.seq (CW.ok [1, 5, 6] rfl (CW.rg (RL.p rfl (RL.bx rfl (wrapV_i64 (by omega) (by omega)) ?_)))))))
    refine RL.p rfl (RL.nil ?_)
    refine NQ.round (g := i) (i + 1) hlt (by show l.length - (i + 1) < l.length - i; omega) (.cons rfl (.cons (k := 5) (by rw [hst]; rfl) (.cons rfl .nil))) (fun w h => h.rea (fun _ h => h) (by repeat (first | exact Rea.nil | (apply Rea.cons; (solve | (repeat (first | exact Del.here | apply Del.there)))))))
  · have hin : i = l.length := by simp at hlt; omega
    subst hin
    refine CW.exit (XQ.seq (XQ.seq (XQ.hit (NQ.seq (CW.ok [5] rfl (CW.seq (CW.rg (RL.p rfl (RL.p rfl (RL.nil (NQ.seq (CW.ret ?_))))))))))))
    exact RQ.post (res1 rfl rfl) (Split.none _) ⟨by rw [List.take_length], rfl, rfl⟩
theorem rhex_any (k : List B8) (hk : k.length = 32) : Spc Tryz.prog 35 #[.agg (bytes k).toArray] [] [] (Is (strV (hexT k))) := by
  have hbl : (bytes k).length = 32 := by rw [List.length_map, hk]
  refine Spc.enter Tryz.func35 rfl rfl rfl (fun w0 hw0 => ?_)
  refine CW.seq (CW.region (ef := [0]) (bk := []) (RL.box rfl rfl rfl rfl rfl rfl ?_))
  intro b1
  refine RL.p rfl (RL.nil (NQ.seq (CW.seq (CW.rg (RL.p rfl (RL.nil (NQ.seq (CW.seq (CW.rg (RL.p rfl (RL.nil (NQ.seq (CW.seq ?_)))))))))))))
  refine CW.seq (CW.rg (RL.p rfl (RL.nil (NQ.seq (CW.block (CW.freezeAll rfl ?_))))))
  refine CW.genI (fun J hJ => ?_)
  have m1 : cel b1 (bytes k) 29 ∈ J := hJ _ (by simp)
  clear hJ
  refine CW.loop (γ := Nat) (fun i => i ≤ 32) (fun i => [(1, .pointer (some ⟨b1, 0, none⟩)), (3, strV dgX), (4, strV (hexT (k.take i))), (5, .int .i64 (i : Int))]) (fun _ => J) (fun _ => []) (fun i => 32 - i) 0 (Nat.zero_le _) (.cons rfl (.cons rfl (.cons rfl (.cons rfl .nil)))) (fun w h => h.rea (fun _ h => h) (by repeat (first | exact Rea.nil | (apply Rea.cons; (solve | (repeat (first | exact Del.here | apply Del.there))))))) ?_
  intro i hi
  refine CW.seq (CW.seq (CW.rg (RL.p rfl (RL.p rfl (RL.nil (NQ.seq ?_))))))
  refine CW.cond rfl (fun hlt => ?_) (fun hlt => ?_)
  · have hlt' : i < 32 := by simp at hlt; omega
    have hc : k[i]? = some (k[i]'(by omega)) := List.getElem?_eq_getElem (by omega)
    generalize k[i]'(by omega) = c at hc
    have hq1 := dgX_at ⟨c.toNat / 16, by have := c.isLt; omega⟩
    have hq2 := dgX_at ⟨c.toNat % 16, by omega⟩
    have hst := hexT_step hc
    have hln : (hexT (k.take i)).length ≤ 64 := by rw [hexT_len, List.length_take]; omega
    have f1 : RdI J ⟨b1, 0 + i * 1, none⟩ (U8 c) := ⟨fun _ => Rd.getI m1 (by rw [show 0 + i * 1 = i by omega, List.getElem?_map, hc]; rfl)⟩
    refine CW.skip (NQ.seq (CW.seq (CW.block (CW.regionD (Sq.of [0, 1, 2, 3, 4, 5, 6, 7, 8, 9, 10, 11, 12, 13, 14, 15, 16]) [13] [] [0, 1, 2, 3, 4, 5, 6, 7, 8, 9, 10, 11, 12, 15, 16] mixed (by kernel_rfl) ?_))))
    refine RL.p rfl (RL.p rfl (RL.p rfl (RL.idxAAt (j := i) Tryz.runUnderlying29 Tryz.sizeOf5 rfl rfl rfl rfl rfl rfl hlt' (RL.loadTq Tryz.isAgg5 rfl rfl rfl rfl ?_))))
    refine RL.quo rfl rfl rfl rfl rfl (by decide) ?_
    refine RL.cast (d := 15) (v' := .int .u8 ((c.toNat / 16 : Nat) : Int)) rfl (by congr 1; have := c.isLt; show IntKind.wrap .u8 ((c.toNat / 16 : Nat) : Int) = _; simp [IntKind.wrap, IntKind.bits, IntKind.signed]; omega) ?_
    refine RL.idxTxt (j := c.toNat / 16) (s := dgX) Tryz.runUnderlying9 rfl rfl rfl rfl rfl rfl hq1 (RL.p rfl (RL.p rfl (RL.idxAAt (j := i) Tryz.runUnderlying29 Tryz.sizeOf5 rfl rfl rfl rfl rfl rfl hlt' (RL.loadTq Tryz.isAgg5 rfl rfl rfl rfl ?_))))
    refine RL.rem rfl rfl rfl rfl rfl (by decide) ?_
    refine RL.cast (d := 21) (v' := .int .u8 ((c.toNat % 16 : Nat) : Int)) rfl rfl ?_
    refine RL.idxTxt (j := c.toNat % 16) (s := dgX) Tryz.runUnderlying9 rfl rfl rfl rfl rfl rfl hq2 (RL.buildSlice [_, _] Tryz.runUnderlying83 Tryz.sizeOf5 Tryz.zeroValue5 rfl rfl (by decide) (by decide) rfl rfl rfl rfl rfl rfl ?_)
    intro b2
    refine RL.bytesStr (bs := [hexc (c.toNat / 16), hexc (c.toNat % 16)]) (e := 5) (by kernel_rfl) (by kernel_rfl) (by kernel_rfl) rfl rfl rfl rfl (Src.cel (cs := [U8 (hexc (c.toNat / 16)), U8 (hexc (c.toNat % 16))]) (by repeat (first | exact List.Mem.head _ | apply List.Mem.tail)) rfl) ?_
    refine RL.addTxt (a := hexT (k.take i)) (b := [hexc (c.toNat / 16), hexc (c.toNat % 16)]) rfl rfl rfl rfl rfl (by show _ + 2 ≤ _; omega) ?_
    refine RL.p rfl (RL.nil (NQ.block (NQ.seq (CW.ok [1, 3, 4, 5] rfl (CW.rg (RL.p rfl (RL.bx rfl (wrapV_i64 (by omega) (by omega)) ?_)))))))
    refine RL.p rfl (RL.nil ?_)
    refine NQ.round (g := i) (i + 1) hlt' (by show 32 - (i + 1) < 32 - i; omega) (.cons rfl (.cons rfl (.cons (k := 4) (by rw [hst, List.append_assoc]; rfl) (.cons rfl .nil)))) (fun w h => h.rea (fun _ h => h) (by repeat (first | exact Rea.nil | (apply Rea.cons; (solve | (repeat (first | exact Del.here | apply Del.there)))))))
  · have hi' : i = 32 := by simp at hlt; omega
    subst hi'
    refine CW.exit (XQ.seq (XQ.seq (XQ.hit (NQ.seq (CW.seq (CW.rg (RL.p rfl (RL.p rfl (RL.nil (NQ.seq (CW.ok [2] rfl (CW.ret ?_))))))))))))
    exact RQ.post (res1 rfl rfl) (Split.none _) ⟨by rw [List.take_of_length_le (by omega)], rfl, rfl⟩
end Go.Proofs.YthndhipjfdgdfaaGreatDoor

namespace Go.Proofs.YthndhipjfdgdfaaGreatDoor
open Go.PK
/-! ### The reference's print -/
def srcN (s : Sr) : List Int := [s.w, s.g, s.st, s.hz, s.wt.go, s.wt.gg, s.wt.gm, s.wt.sl, s.wt.mo, s.wt.sa, s.wt.ra, s.wt.ba, s.wt.ho, s.wt.pr]
theorem ln_src (s : Sr) : lnP (srcP s) = rowT nSource [s.id, s.kd] ++ [32#8] ++ hexT s.rt ++ (if aidB s.kd = true then rowT [] (srcN s) else []) ++ [10#8] := by
  rw [lnP, srcP]
  by_cases h : aidB s.kd = true
  · rw [if_pos h, if_pos h]
    simp [jnL, rowT, srcN]
  · rw [if_neg h, if_neg h]
    simp [jnL, rowT]
def zonN (z : Zn) : List Int := z.fl :: z.rf :: z.L.flatMap fun p => [p.1, p.2]
def zonM (k : Bool) : Tx := nZone ++ [32#8] ++ kpT k
theorem ln_zon (z : Zn) : lnP (zonP z) = rowT (zonM z.keep) (zonN z) ++ [10#8] := by
  have e : zonP z = nZone :: kpT z.keep :: (zonN z).map itoT := by
    rw [zonP, zonN, List.map_cons, List.map_cons, List.map_flatMap]; rfl
  rw [e, lnP, jnL, rowT_jn, rowT, rowT, zonM]
  simp
theorem ln_nine (P : Pl) : (nineP P).flatMap lnP = ((((rowT nGravity [P.cf.g0, P.cf.g1, P.cf.g2] ++ [10#8]) ++ rowT nDrift [P.cf.dr]) ++ [10#8]) ++ ((((rowT nSlot [P.cf.sc.st, P.cf.sc.ln, P.cf.sc.lg, P.cf.sc.of] ++ ([10#8] ++ nCommit ++ [32#8])) ++ hexT P.cf.cm)) ++ [10#8])) ++ (((((rowT nLock [P.cf.mo, P.cf.ti] ++ [10#8]) ++ rowT nGrace [P.cf.gr]) ++ ([10#8] ++ nStride ++ [32#8])) ++ decT P.cf.sd.toNat) ++ [10#8]) ++ (((rowT nClock [P.de, P.ra, P.mo] ++ [10#8]) ++ rowT nTrace [P.sz]) ++ [10#8]) := by
  simp [nineP, lnP, jnL, rowT]
theorem zonN_len (z : Zn) : (zonN z).length = 2 + 2 * z.L.length := by
  rw [zonN, List.length_cons, List.length_cons]
  have : (z.L.flatMap fun p => [p.1, p.2]).length = 2 * z.L.length := by
    induction z.L with
    | nil => rfl
    | cons p r ih => rw [List.flatMap_cons, List.length_append, ih, List.length_cons]; show 2 + 2 * r.length = 2 * (r.length + 1); omega
  omega
def ptN (L : List Pt) : List Int := L.flatMap fun p => [p.1, p.2]
theorem ptN_step {L : List Pt} {i : Nat} {p : Pt} (h : L[i]? = some p) : ptN (L.take (i + 1)) = ptN (L.take i) ++ [p.1, p.2] := by
  rw [List.take_add_one, h, ptN, ptN, List.flatMap_append]; simp
theorem rprint_any (P : Pl) (oa oz : Option Nat) (ca cz : Nat) (ZL : List ZO) (hP : P.Fit ZL) (hA : P.All) :
    Spc Tryz.prog 9 #[.agg (plC P (slO oa P.cf.L.length ca) (slO oz P.zs.length cz)).toArray] (plI P oa oz ZL) [] (Is (prV P)) := by
  have hnz := hA.nz
  have hnl := hA.nl
  have hcm := hP.cf.cm
  have hpl := pl_len hP.cf.cm (slO oa P.cf.L.length ca) (slO oz P.zs.length cz)
  have hLl : ∀ s ∈ P.cf.L, s.cells.length = 48 := fun s hs => sr_len (hP.cf.L s hs).rt
  refine Spc.enter Tryz.func9 rfl rfl rfl (fun w0 hw0 => ?_)
  refine CW.seq (CW.region (ef := [0]) (bk := []) (RL.box rfl rfl rfl rfl rfl rfl ?_))
  intro b1
  refine RL.p rfl (RL.p rfl (RL.nil (NQ.seq (CW.seq (CW.seq (CW.freezeAll rfl ?_))))))
  refine CW.genI (fun J hJ => ?_)
  have hplI : ∀ x ∈ plI P oa oz ZL, x ∈ J := fun x hx => hJ x (List.Mem.tail _ hx)
  have m1 : cel b1 (plC P (slO oa P.cf.L.length ca) (slO oz P.zs.length cz)) 43 ∈ J := hJ _ (by simp)
  have m2 : sls (oa.map fun b => ⟨b, 0, none⟩) 48 P.cf.L.length (P.cf.L.flatMap Sr.cells) ∈ J := hJ _ (by simp)
  have m3 : sls (oz.map fun b => ⟨b, 0, none⟩) 4 P.zs.length (ZL.flatMap znO) ∈ J := hJ _ (by simp)
  have m4 : ∀ z ∈ ZL, znS z ∈ J := fun z hz => hJ _ (by repeat (first | exact List.mem_map_of_mem hz | apply List.mem_cons_of_mem))
  clear hJ
  have fC : RdsN J ⟨b1, 0 + 0, none⟩ 45 (P.cf.cells (slO oa P.cf.L.length ca)) := RdsN.told m1 (pl_cf hP.cf.cm _ _) (cf_len hP.cf.cm _)
  have fS : RdI J ⟨b1, 0 + 0 + 0, none⟩ (slO oa P.cf.L.length ca) := ⟨fun _ => Rd.celI m1 rfl⟩
  have fZ : RdI J ⟨b1, 0 + 45, none⟩ (slO oz P.zs.length cz) := ⟨fun _ => Rd.getI m1 (pl_tl hP.cf.cm _ _ 0)⟩
  have f6 : RdI J ⟨b1, 0 + 46, none⟩ (.int .i64 P.de) := ⟨fun _ => Rd.getI m1 (pl_tl hP.cf.cm _ _ 1)⟩
  have f7 : RdI J ⟨b1, 0 + 47, none⟩ (.int .i64 P.ra) := ⟨fun _ => Rd.getI m1 (pl_tl hP.cf.cm _ _ 2)⟩
  have f8 : RdI J ⟨b1, 0 + 48, none⟩ (.int .i64 P.mo) := ⟨fun _ => Rd.getI m1 (pl_tl hP.cf.cm _ _ 3)⟩
  have f9 : RdI J ⟨b1, 0 + 49, none⟩ (.int .i64 P.sz) := ⟨fun _ => Rd.getI m1 (pl_tl hP.cf.cm _ _ 4)⟩
  have fA : RdsN J ⟨b1, 0, none⟩ 50 (plC P (slO oa P.cf.L.length ca) (slO oz P.zs.length cz)) := RdsN.told m1 (fun j u hu => by rw [Nat.zero_add]; exact hu) hpl
  refine CW.rg (RL.loadSq Tryz.isAgg43 Tryz.sizeOf43 rfl rfl rfl rfl ?_)
  refine RL.callv (rgcheck_any P oa oz ca cz ZL hP) Tryz.call11 rfl rfl rfl rfl (Lend.many hplI) (RL.p rfl (RL.nil (NQ.seq (CW.seq (CW.rg (RL.p rfl (RL.p rfl (RL.nil (NQ.seq ?_)))))))))
  refine CW.cond rfl (fun he => ?_) (fun he => ?_)
  · have he' : ¬ P.ok = true := fun h => by rw [Pl.err, if_pos h] at he; simp at he
    refine CW.seq (CW.rg (RL.p rfl (RL.p rfl (RL.p rfl (RL.nil (NQ.seq (CW.ok [1, 2, 3] rfl (CW.ret (RQ.seq ?_)))))))))
    exact RQ.post (res2 rfl rfl rfl) (Split.none _) ⟨by rw [prV, if_neg he', Pl.err, if_neg he']; rfl, rfl, rfl⟩
  · have he' : P.ok = true := by
      cases h : P.ok with
      | true => rfl
      | false => rw [Pl.err, h] at he; simp at he
    have hcl := cf_len hcm (slO oa P.cf.L.length ca)
    refine CW.skip (NQ.seq (CW.ok [1] rfl (CW.seq (CW.region (ef := [2, 3]) (bk := [3]) (RL.fieldAddr fa_43_0 rfl rfl rfl rfl (RL.loadSq Tryz.isAgg40 Tryz.sizeOf40 rfl rfl rfl rfl ?_))))))
    refine RL.alloc Tryz.zeroValue40 rfl rfl rfl rfl rfl ?_
    intro b2
    refine RL.storeW Tryz.sizeOf40 rfl rfl rfl rfl rfl rfl rfl (cf_ones _ rfl) (by repeat (first | exact Upd.here | apply Upd.there)) hcl rfl ?_
    refine RL.nil (NQ.seq (CW.seq (CW.freezeAll rfl ?_)))
    refine CW.genI (fun J2 hJ2 => ?_)
    have k1 : cel b2 (P.cf.cells (slO oa P.cf.L.length ca)) 40 ∈ J2 := hJ2 _ (List.Mem.head _)
    have hs : ∀ x ∈ J, x ∈ J2 := fun x hx => hJ2 _ (List.Mem.tail _ hx)
    clear hJ2
    have k2 := hs _ m2
    have k3 := hs _ m3
    have k4 : ∀ z ∈ ZL, znS z ∈ J2 := fun z hz => hs _ (m4 z hz)
    have fZ := RdI.up hs fZ
    have f6 := RdI.up hs f6
    have f7 := RdI.up hs f7
    have f8 := RdI.up hs f8
    have f9 := RdI.up hs f9
    have hsd : (P.cf.sd.toNat : Int) = P.cf.sd := by have := hA.sd; omega
    have hsu : P.cf.sd.toNat < 18446744073709551616 := by have := hA.sd; omega
    have c0 : RdI J2 ⟨b2, 0 + 1 + 0 * 1, none⟩ (.int .i64 P.cf.g0) := ⟨fun _ => Rd.celI k1 rfl⟩
    have c1 : RdI J2 ⟨b2, 0 + 1 + 1 * 1, none⟩ (.int .i64 P.cf.g1) := ⟨fun _ => Rd.celI k1 rfl⟩
    have c2 : RdI J2 ⟨b2, 0 + 1 + 2 * 1, none⟩ (.int .i64 P.cf.g2) := ⟨fun _ => Rd.celI k1 rfl⟩
    have c3 : RdI J2 ⟨b2, 0 + 4, none⟩ (.int .i64 P.cf.dr) := ⟨fun _ => Rd.celI k1 rfl⟩
    have c4 : RdI J2 ⟨b2, 0 + 5 + 0, none⟩ (.int .i64 P.cf.sc.st) := ⟨fun _ => Rd.celI k1 rfl⟩
    have c5 : RdI J2 ⟨b2, 0 + 5 + 1, none⟩ (.int .i64 P.cf.sc.ln) := ⟨fun _ => Rd.celI k1 rfl⟩
    have c6 : RdI J2 ⟨b2, 0 + 5 + 2, none⟩ (.int .i64 P.cf.sc.lg) := ⟨fun _ => Rd.celI k1 rfl⟩
    have c7 : RdI J2 ⟨b2, 0 + 5 + 3, none⟩ (.int .i64 P.cf.sc.of) := ⟨fun _ => Rd.celI k1 rfl⟩
    have c8 : RdI J2 ⟨b2, 0 + 41, none⟩ (.int .i64 P.cf.mo) := ⟨fun _ => Rd.getI k1 (cf_t hcm _ 0)⟩
    have c9 : RdI J2 ⟨b2, 0 + 42, none⟩ (.int .i64 P.cf.ti) := ⟨fun _ => Rd.getI k1 (cf_t hcm _ 1)⟩
    have c10 : RdI J2 ⟨b2, 0 + 43, none⟩ (.int .i64 P.cf.gr) := ⟨fun _ => Rd.getI k1 (cf_t hcm _ 2)⟩
    have c11 : RdI J2 ⟨b2, 0 + 44, none⟩ (.int .u64 (P.cf.sd.toNat : Int)) := ⟨fun _ => by rw [hsd]; exact Rd.getI k1 (cf_t hcm _ 3)⟩
    have c12 : RdI J2 ⟨b2, 0 + 0, none⟩ (slO oa P.cf.L.length ca) := ⟨fun _ => Rd.celI k1 rfl⟩
    have hkl : (bytes P.cf.cm).length = 32 := by rw [List.length_map, hcm]
    have cK : RdsN J2 ⟨b2, 0 + 9, none⟩ 32 (bytes P.cf.cm) := RdsN.told k1 (cf_key hcm _) hkl
    have h := hA.n
    have hrow : ∀ (nm : Tx) (l : List Int) (b m : Nat), l.length = m → (∀ v ∈ l, v ∈ P.nums) → nm.length ≤ 10 → m ≤ 14 → Spc Tryz.prog 34 #[strV nm, .slice (some ⟨b, 0, none⟩) m m] [sls (some ⟨b, 0, none⟩) 1 m (ints l)] [] (Is (strV (rowT nm l))) := fun nm l b m hm hv hnm hm14 => rrow_any nm _ m m l hm (fun v hx => h v (hv v hx)) (by omega) (by omega)
    have hlen : ∀ (nm : Tx) (l : List Int), (∀ v ∈ l, v ∈ P.nums) → nm.length ≤ 10 → l.length ≤ 14 → (rowT nm l).length ≤ 400 := fun nm l hv hnm hl => by
      have := rowT_len (nm := nm) (l := l) (fun v hx => h v (hv v hx)); omega
    have hds := decT_len20 hsu
    have hxl : (hexT P.cf.cm).length = 64 := by rw [hexT_len, hcm]
    obtain ⟨tx, htx⟩ : ∃ t : Tx, t = ((rowT nGravity [P.cf.g0, P.cf.g1, P.cf.g2] ++ [10#8]) ++ rowT nDrift [P.cf.dr]) ++ [10#8] := ⟨_, rfl⟩
    refine CW.cutG (γ := Unit) (fun _ => True) (fun _ => [(1, .pointer (some ⟨b1, 0, none⟩)), (5, .pointer (some ⟨b2, 0, none⟩)), (6, strV tx)]) (fun _ => J2) (fun _ => []) ?_ ?_
    ·
      have n1 := hlen nGravity [P.cf.g0, P.cf.g1, P.cf.g2] (by simp [Pl.nums]) (by decide) (by simp)
      have n2 := hlen nDrift [P.cf.dr] (by simp [Pl.nums]) (by decide) (by simp)
      refine CW.regionD (.cons 0 (.cons 1 (.cons 2 (.cons 3 (.cons 4 (.cons 5 (.cons 6 (.cons 7 (.cons 8 (.cons 12 (.cons 13 (.fork [9, 14] (fun k => (bif Nat.beq k 9 then (Sq.of [10, 11, 14, 15, 16, 17, 18]) else (Sq.of [9, 10, 11, 15, 16, 17, 18]))))))))))))))) [9, 14] [] [0, 1, 2, 3, 4, 5, 6, 7, 8, 11, 12, 13, 16, 17, 18] mixed (by kernel_rfl) ?_
      refine RL.fieldAddr fa_40_1 rfl rfl rfl rfl (RL.idxAAt (j := 0) Tryz.runUnderlying25 Tryz.sizeOf23 rfl rfl rfl rfl rfl rfl (by decide) ?_)
      refine RL.loadTq Tryz.isAgg23 rfl rfl rfl rfl ?_
      refine RL.fieldAddr fa_40_1 rfl rfl rfl rfl (RL.idxAAt (j := 1) Tryz.runUnderlying25 Tryz.sizeOf23 rfl rfl rfl rfl rfl rfl (by decide) ?_)
      refine RL.loadTq Tryz.isAgg23 rfl rfl rfl rfl ?_
      refine RL.fieldAddr fa_40_1 rfl rfl rfl rfl (RL.idxAAt (j := 2) Tryz.runUnderlying25 Tryz.sizeOf23 rfl rfl rfl rfl rfl rfl (by decide) ?_)
      refine RL.loadTq Tryz.isAgg23 rfl rfl rfl rfl ?_
      refine RL.fieldAddr fa_40_2 rfl rfl rfl rfl (RL.loadTq Tryz.isAgg23 rfl rfl rfl rfl ?_)
      refine RL.fork ⟨?_, ?_, trivial⟩
      ·
        refine RL.buildOwn [_, _, _] Tryz.runUnderlying61 Tryz.sizeOf3 Tryz.zeroValue3 rfl rfl (by decide) (by decide) rfl (by decide) rfl rfl rfl rfl rfl rfl ?_
        intro b3
        refine RL.callv (hrow nGravity [P.cf.g0, P.cf.g1, P.cf.g2] b3 3 rfl (by simp [Pl.nums]) (by decide) (by decide)) Tryz.call34 rfl rfl rfl rfl (Lend.ownE (ob := some b3) (cap := 3) (nn := 3) (by repeat (first | exact List.Mem.head _ | apply List.Mem.tail)) rfl rfl .nil) ?_
        refine RL.addTxt (b := [10#8]) rfl rfl rfl rfl rfl (by simp only [List.length_append, List.length_cons, List.length_nil]; omega) ?_
        refine RL.buildOwn [_] Tryz.runUnderlying61 Tryz.sizeOf3 Tryz.zeroValue3 rfl rfl (by decide) (by decide) rfl (by decide) rfl rfl rfl rfl rfl rfl ?_
        intro b4
        refine RL.callv (hrow nDrift [P.cf.dr] b4 1 rfl (by simp [Pl.nums]) (by decide) (by decide)) Tryz.call34 rfl rfl rfl rfl (Lend.ownE (ob := some b4) (cap := 1) (nn := 1) (by repeat (first | exact List.Mem.head _ | apply List.Mem.tail)) rfl rfl .nil) ?_
        refine RL.addTxt (b := rowT nDrift [P.cf.dr]) rfl rfl rfl rfl rfl (by simp only [List.length_append, List.length_cons, List.length_nil]; omega) ?_
        refine RL.addTxt (b := [10#8]) rfl rfl rfl rfl rfl (by simp only [List.length_append, List.length_cons, List.length_nil]; omega) ?_
        refine RL.p rfl (RL.nil ?_)
        exact NQ.midG () trivial (.cons rfl (.cons rfl (.cons (k := 6) (by rw [htx]; rfl) .nil))) (fun w h => h.rea (fun _ h => h) (by repeat (first | exact Rea.nil | (apply Rea.cons; (solve | (repeat (first | exact Del.here | apply Del.there)))))))
      ·
        refine RL.buildOwn [_] Tryz.runUnderlying61 Tryz.sizeOf3 Tryz.zeroValue3 rfl rfl (by decide) (by decide) rfl (by decide) rfl rfl rfl rfl rfl rfl ?_
        intro b4
        refine RL.buildOwn [_, _, _] Tryz.runUnderlying61 Tryz.sizeOf3 Tryz.zeroValue3 rfl rfl (by decide) (by decide) rfl (by decide) rfl rfl rfl rfl rfl rfl ?_
        intro b3
        refine RL.callv (hrow nGravity [P.cf.g0, P.cf.g1, P.cf.g2] b3 3 rfl (by simp [Pl.nums]) (by decide) (by decide)) Tryz.call34 rfl rfl rfl rfl (Lend.ownE (ob := some b3) (cap := 3) (nn := 3) (by repeat (first | exact List.Mem.head _ | apply List.Mem.tail)) rfl rfl .nil) ?_
        refine RL.addTxt (b := [10#8]) rfl rfl rfl rfl rfl (by simp only [List.length_append, List.length_cons, List.length_nil]; omega) ?_
        refine RL.callv (hrow nDrift [P.cf.dr] b4 1 rfl (by simp [Pl.nums]) (by decide) (by decide)) Tryz.call34 rfl rfl rfl rfl (Lend.ownE (ob := some b4) (cap := 1) (nn := 1) (by repeat (first | exact List.Mem.head _ | apply List.Mem.tail)) rfl rfl .nil) ?_
        refine RL.addTxt (b := rowT nDrift [P.cf.dr]) rfl rfl rfl rfl rfl (by simp only [List.length_append, List.length_cons, List.length_nil]; omega) ?_
        refine RL.addTxt (b := [10#8]) rfl rfl rfl rfl rfl (by simp only [List.length_append, List.length_cons, List.length_nil]; omega) ?_
        refine RL.p rfl (RL.nil ?_)
        exact NQ.midG () trivial (.cons rfl (.cons rfl (.cons (k := 6) (by rw [htx]; rfl) .nil))) (fun w h => h.rea (fun _ h => h) (by repeat (first | exact Rea.nil | (apply Rea.cons; (solve | (repeat (first | exact Del.here | apply Del.there)))))))
    rintro - -
    have htl : tx.length ≤ 1000 := by
      have n1 := hlen nGravity [P.cf.g0, P.cf.g1, P.cf.g2] (by simp [Pl.nums]) (by decide) (by simp)
      have n2 := hlen nDrift [P.cf.dr] (by simp [Pl.nums]) (by decide) (by simp)
      rw [htx]; simp only [List.length_append, List.length_cons, List.length_nil]; omega
    refine CW.seq ?_
    obtain ⟨ty, hty⟩ : ∃ t : Tx, t = tx ++ ((((rowT nSlot [P.cf.sc.st, P.cf.sc.ln, P.cf.sc.lg, P.cf.sc.of] ++ ([10#8] ++ nCommit ++ [32#8])) ++ hexT P.cf.cm)) ++ [10#8]) := ⟨_, rfl⟩
    have n3 := hlen nSlot [P.cf.sc.st, P.cf.sc.ln, P.cf.sc.lg, P.cf.sc.of] (by simp [Pl.nums]) (by decide) (by simp)
    have hcl8 : ([10#8] ++ nCommit ++ [32#8] : Tx).length = 8 := rfl
    have htyl : ty.length ≤ 2000 := by rw [hty]; simp only [List.length_append, List.length_cons, List.length_nil] at hcl8 ⊢; omega
    refine CW.cutG (γ := Unit) (fun _ => True) (fun _ => [(1, .pointer (some ⟨b1, 0, none⟩)), (5, .pointer (some ⟨b2, 0, none⟩)), (6, strV ty)]) (fun _ => J2) (fun _ => []) ?_ ?_
    ·
      have hlx := htl
      refine CW.regionD (Sq.of [0, 1, 2, 3, 4, 5, 6, 7, 8, 9, 10, 11, 12, 16, 17, 13, 14, 15, 18, 19, 20, 21, 22]) [13] [] [0, 1, 2, 3, 4, 5, 6, 7, 8, 9, 10, 11, 12, 15, 16, 17, 18, 19, 20, 21, 22] mixed (by kernel_rfl) ?_
      refine RL.p rfl (RL.fieldAddr fa_40_3 rfl rfl rfl rfl (RL.fieldAddr fa_38_0 rfl rfl rfl rfl (RL.loadTq Tryz.isAgg3 rfl rfl rfl rfl ?_)))
      refine RL.fieldAddr fa_40_3 rfl rfl rfl rfl (RL.fieldAddr fa_38_1 rfl rfl rfl rfl (RL.loadTq Tryz.isAgg3 rfl rfl rfl rfl ?_))
      refine RL.fieldAddr fa_40_3 rfl rfl rfl rfl (RL.fieldAddr fa_38_2 rfl rfl rfl rfl (RL.loadTq Tryz.isAgg3 rfl rfl rfl rfl ?_))
      refine RL.fieldAddr fa_40_3 rfl rfl rfl rfl (RL.fieldAddr fa_38_3 rfl rfl rfl rfl (RL.loadTq Tryz.isAgg3 rfl rfl rfl rfl ?_))
      refine RL.fieldAddr fa_40_4 rfl rfl rfl rfl (RL.loadSTq Tryz.isAgg29 Tryz.sizeOf29 rfl rfl rfl rfl ?_)
      refine RL.buildOwn [_, _, _, _] Tryz.runUnderlying61 Tryz.sizeOf3 Tryz.zeroValue3 rfl rfl (by decide) (by decide) rfl (by decide) rfl rfl rfl rfl rfl rfl ?_
      intro b3
      refine RL.callv (hrow nSlot [P.cf.sc.st, P.cf.sc.ln, P.cf.sc.lg, P.cf.sc.of] b3 4 rfl (by simp [Pl.nums]) (by decide) (by decide)) Tryz.call34 rfl rfl rfl rfl (Lend.ownE (ob := some b3) (cap := 4) (nn := 4) (by repeat (first | exact List.Mem.head _ | apply List.Mem.tail)) rfl rfl .nil) ?_
      refine RL.addTxt (b := [10#8] ++ nCommit ++ [32#8]) rfl rfl rfl rfl rfl (by omega) ?_
      refine RL.callvT (rhex_any P.cf.cm hcm) Tryz.call35 rfl rfl rfl rfl .nil (RL.addTxt (b := hexT P.cf.cm) rfl rfl rfl rfl rfl (by simp only [List.length_append, List.length_cons, List.length_nil] at hcl8 ⊢; omega) ?_)
      refine RL.addTxt (b := [10#8]) rfl rfl rfl rfl rfl (by simp only [List.length_append, List.length_cons, List.length_nil] at hcl8 ⊢; omega) ?_
      refine RL.addTxt (a := tx) rfl rfl rfl rfl rfl (by simp only [List.length_append, List.length_cons, List.length_nil] at hcl8 ⊢; omega) ?_
      refine RL.p rfl (RL.nil ?_)
      exact NQ.midG () trivial (.cons rfl (.cons rfl (.cons (k := 6) (by rw [hty]; rfl) .nil))) (fun w h => h.rea (fun _ h => h) (by repeat (first | exact Rea.nil | (apply Rea.cons; (solve | (repeat (first | exact Del.here | apply Del.there)))))))
    rintro - -
    refine CW.seq ?_
    obtain ⟨tz, htz⟩ : ∃ t : Tx, t = ty ++ (((((rowT nLock [P.cf.mo, P.cf.ti] ++ [10#8]) ++ rowT nGrace [P.cf.gr]) ++ ([10#8] ++ nStride ++ [32#8])) ++ decT P.cf.sd.toNat) ++ [10#8]) := ⟨_, rfl⟩
    have n4 := hlen nLock [P.cf.mo, P.cf.ti] (by simp [Pl.nums]) (by decide) (by simp)
    have n5 := hlen nGrace [P.cf.gr] (by simp [Pl.nums]) (by decide) (by simp)
    have hcl9 : ([10#8] ++ nStride ++ [32#8] : Tx).length = 8 := rfl
    have htzl : tz.length ≤ 4000 := by rw [htz]; simp only [List.length_append, List.length_cons, List.length_nil] at hcl9 ⊢; omega
    refine CW.cutG (γ := Unit) (fun _ => True) (fun _ => [(1, .pointer (some ⟨b1, 0, none⟩)), (5, .pointer (some ⟨b2, 0, none⟩)), (6, strV tz)]) (fun _ => J2) (fun _ => []) ?_ ?_
    ·
      have hlx := htl
      refine CW.regionD (.cons 0 (.cons 1 (.cons 2 (.cons 3 (.cons 4 (.cons 8 (.cons 9 (.cons 14 (.cons 15 (.fork [5, 10] (fun k => (bif Nat.beq k 5 then (Sq.of [6, 7, 10, 11, 12, 13, 16, 17, 18, 19, 20]) else (Sq.of [5, 6, 7, 11, 12, 13, 16, 17, 18, 19, 20]))))))))))))) [5, 10] [] [0, 1, 2, 3, 4, 7, 8, 9, 12, 13, 14, 15, 16, 17, 18, 19, 20] mixed (by kernel_rfl) ?_
      refine RL.p rfl (RL.fieldAddr fa_40_5 rfl rfl rfl rfl (RL.loadTq Tryz.isAgg3 rfl rfl rfl rfl ?_))
      refine RL.fieldAddr fa_40_6 rfl rfl rfl rfl (RL.loadTq Tryz.isAgg3 rfl rfl rfl rfl ?_)
      refine RL.fieldAddr fa_40_7 rfl rfl rfl rfl (RL.loadTq Tryz.isAgg3 rfl rfl rfl rfl ?_)
      refine RL.fieldAddr fa_40_8 rfl rfl rfl rfl (RL.loadTq Tryz.isAgg30 rfl rfl rfl rfl ?_)
      refine RL.fork ⟨?_, ?_, trivial⟩
      ·
        refine RL.buildOwn [_, _] Tryz.runUnderlying61 Tryz.sizeOf3 Tryz.zeroValue3 rfl rfl (by decide) (by decide) rfl (by decide) rfl rfl rfl rfl rfl rfl ?_
        intro b3
        refine RL.callv (hrow nLock [P.cf.mo, P.cf.ti] b3 2 rfl (by simp [Pl.nums]) (by decide) (by decide)) Tryz.call34 rfl rfl rfl rfl (Lend.ownE (ob := some b3) (cap := 2) (nn := 2) (by repeat (first | exact List.Mem.head _ | apply List.Mem.tail)) rfl rfl .nil) ?_
        refine RL.addTxt (b := [10#8]) rfl rfl rfl rfl rfl (by simp only [List.length_append, List.length_cons, List.length_nil] at hcl9 ⊢; omega) ?_
        refine RL.buildOwn [_] Tryz.runUnderlying61 Tryz.sizeOf3 Tryz.zeroValue3 rfl rfl (by decide) (by decide) rfl (by decide) rfl rfl rfl rfl rfl rfl ?_
        intro b4
        refine RL.callv (hrow nGrace [P.cf.gr] b4 1 rfl (by simp [Pl.nums]) (by decide) (by decide)) Tryz.call34 rfl rfl rfl rfl (Lend.ownE (ob := some b4) (cap := 1) (nn := 1) (by repeat (first | exact List.Mem.head _ | apply List.Mem.tail)) rfl rfl .nil) ?_
        refine RL.addTxt (b := rowT nGrace [P.cf.gr]) rfl rfl rfl rfl rfl (by simp only [List.length_append, List.length_cons, List.length_nil] at hcl9 ⊢; omega) ?_
        refine RL.addTxt (b := [10#8] ++ nStride ++ [32#8]) rfl rfl rfl rfl rfl (by simp only [List.length_append, List.length_cons, List.length_nil] at hcl9 ⊢; omega) ?_
        refine RL.callvT (rdig_any P.cf.sd.toNat hsu) Tryz.call36 rfl rfl rfl rfl .nil (RL.addTxt (b := decT P.cf.sd.toNat) rfl rfl rfl rfl rfl (by simp only [List.length_append, List.length_cons, List.length_nil] at hcl9 ⊢; omega) ?_)
        refine RL.addTxt (b := [10#8]) rfl rfl rfl rfl rfl (by simp only [List.length_append, List.length_cons, List.length_nil] at hcl9 ⊢; omega) ?_
        refine RL.addTxt (a := ty) rfl rfl rfl rfl rfl (by simp only [List.length_append, List.length_cons, List.length_nil] at hcl9 ⊢; omega) ?_
        refine RL.p rfl (RL.nil ?_)
        exact NQ.midG () trivial (.cons rfl (.cons rfl (.cons (k := 6) (by rw [htz]; rfl) .nil))) (fun w h => h.rea (fun _ h => h) (by repeat (first | exact Rea.nil | (apply Rea.cons; (solve | (repeat (first | exact Del.here | apply Del.there)))))))
      ·
        refine RL.buildOwn [_] Tryz.runUnderlying61 Tryz.sizeOf3 Tryz.zeroValue3 rfl rfl (by decide) (by decide) rfl (by decide) rfl rfl rfl rfl rfl rfl ?_
        intro b4
        refine RL.buildOwn [_, _] Tryz.runUnderlying61 Tryz.sizeOf3 Tryz.zeroValue3 rfl rfl (by decide) (by decide) rfl (by decide) rfl rfl rfl rfl rfl rfl ?_
        intro b3
        refine RL.callv (hrow nLock [P.cf.mo, P.cf.ti] b3 2 rfl (by simp [Pl.nums]) (by decide) (by decide)) Tryz.call34 rfl rfl rfl rfl (Lend.ownE (ob := some b3) (cap := 2) (nn := 2) (by repeat (first | exact List.Mem.head _ | apply List.Mem.tail)) rfl rfl .nil) ?_
        refine RL.addTxt (b := [10#8]) rfl rfl rfl rfl rfl (by simp only [List.length_append, List.length_cons, List.length_nil] at hcl9 ⊢; omega) ?_
        refine RL.callv (hrow nGrace [P.cf.gr] b4 1 rfl (by simp [Pl.nums]) (by decide) (by decide)) Tryz.call34 rfl rfl rfl rfl (Lend.ownE (ob := some b4) (cap := 1) (nn := 1) (by repeat (first | exact List.Mem.head _ | apply List.Mem.tail)) rfl rfl .nil) ?_
        refine RL.addTxt (b := rowT nGrace [P.cf.gr]) rfl rfl rfl rfl rfl (by simp only [List.length_append, List.length_cons, List.length_nil] at hcl9 ⊢; omega) ?_
        refine RL.addTxt (b := [10#8] ++ nStride ++ [32#8]) rfl rfl rfl rfl rfl (by simp only [List.length_append, List.length_cons, List.length_nil] at hcl9 ⊢; omega) ?_
        refine RL.callvT (rdig_any P.cf.sd.toNat hsu) Tryz.call36 rfl rfl rfl rfl .nil (RL.addTxt (b := decT P.cf.sd.toNat) rfl rfl rfl rfl rfl (by simp only [List.length_append, List.length_cons, List.length_nil] at hcl9 ⊢; omega) ?_)
        refine RL.addTxt (b := [10#8]) rfl rfl rfl rfl rfl (by simp only [List.length_append, List.length_cons, List.length_nil] at hcl9 ⊢; omega) ?_
        refine RL.addTxt (a := ty) rfl rfl rfl rfl rfl (by simp only [List.length_append, List.length_cons, List.length_nil] at hcl9 ⊢; omega) ?_
        refine RL.p rfl (RL.nil ?_)
        exact NQ.midG () trivial (.cons rfl (.cons rfl (.cons (k := 6) (by rw [htz]; rfl) .nil))) (fun w h => h.rea (fun _ h => h) (by repeat (first | exact Rea.nil | (apply Rea.cons; (solve | (repeat (first | exact Del.here | apply Del.there)))))))
    rintro - -
    refine CW.seq ?_
    obtain ⟨tn, htn⟩ : ∃ t : Tx, t = tz ++ (((rowT nClock [P.de, P.ra, P.mo] ++ [10#8]) ++ rowT nTrace [P.sz]) ++ [10#8]) := ⟨_, rfl⟩
    have n6 := hlen nClock [P.de, P.ra, P.mo] (by simp [Pl.nums]) (by decide) (by simp)
    have n7 := hlen nTrace [P.sz] (by simp [Pl.nums]) (by decide) (by simp)
    have htnl : tn.length ≤ 8000 := by rw [htn]; simp only [List.length_append, List.length_cons, List.length_nil]; omega
    refine CW.cutG (γ := Unit) (fun _ => True) (fun _ => [(1, .pointer (some ⟨b1, 0, none⟩)), (5, .pointer (some ⟨b2, 0, none⟩)), (6, strV tn)]) (fun _ => J2) (fun _ => []) ?_ ?_
    ·
      have hlx := htl
      refine CW.regionD (.cons 0 (.cons 1 (.cons 2 (.cons 3 (.cons 4 (.cons 5 (.cons 6 (.cons 10 (.cons 11 (.fork [7, 12] (fun k => (bif Nat.beq k 7 then (Sq.of [8, 9, 12, 13, 14, 15, 16, 17]) else (Sq.of [7, 8, 9, 13, 14, 15, 16, 17]))))))))))))) [7, 12] [] [0, 1, 2, 3, 4, 5, 6, 9, 10, 11, 14, 15, 16, 17] mixed (by kernel_rfl) ?_
      refine RL.p rfl (RL.fieldAddr fa_43_2 rfl rfl rfl rfl (RL.loadTq Tryz.isAgg3 rfl rfl rfl rfl ?_))
      refine RL.fieldAddr fa_43_3 rfl rfl rfl rfl (RL.loadTq Tryz.isAgg3 rfl rfl rfl rfl ?_)
      refine RL.fieldAddr fa_43_4 rfl rfl rfl rfl (RL.loadTq Tryz.isAgg3 rfl rfl rfl rfl ?_)
      refine RL.fieldAddr fa_43_5 rfl rfl rfl rfl (RL.loadTq Tryz.isAgg3 rfl rfl rfl rfl ?_)
      refine RL.fork ⟨?_, ?_, trivial⟩
      ·
        refine RL.buildOwn [_, _, _] Tryz.runUnderlying61 Tryz.sizeOf3 Tryz.zeroValue3 rfl rfl (by decide) (by decide) rfl (by decide) rfl rfl rfl rfl rfl rfl ?_
        intro b3
        refine RL.callv (hrow nClock [P.de, P.ra, P.mo] b3 3 rfl (by simp [Pl.nums]) (by decide) (by decide)) Tryz.call34 rfl rfl rfl rfl (Lend.ownE (ob := some b3) (cap := 3) (nn := 3) (by repeat (first | exact List.Mem.head _ | apply List.Mem.tail)) rfl rfl .nil) ?_
        refine RL.addTxt (b := [10#8]) rfl rfl rfl rfl rfl (by simp only [List.length_append, List.length_cons, List.length_nil]; omega) ?_
        refine RL.buildOwn [_] Tryz.runUnderlying61 Tryz.sizeOf3 Tryz.zeroValue3 rfl rfl (by decide) (by decide) rfl (by decide) rfl rfl rfl rfl rfl rfl ?_
        intro b4
        refine RL.callv (hrow nTrace [P.sz] b4 1 rfl (by simp [Pl.nums]) (by decide) (by decide)) Tryz.call34 rfl rfl rfl rfl (Lend.ownE (ob := some b4) (cap := 1) (nn := 1) (by repeat (first | exact List.Mem.head _ | apply List.Mem.tail)) rfl rfl .nil) ?_
        refine RL.addTxt (b := rowT nTrace [P.sz]) rfl rfl rfl rfl rfl (by simp only [List.length_append, List.length_cons, List.length_nil]; omega) ?_
        refine RL.addTxt (b := [10#8]) rfl rfl rfl rfl rfl (by simp only [List.length_append, List.length_cons, List.length_nil]; omega) ?_
        refine RL.addTxt (a := tz) rfl rfl rfl rfl rfl (by simp only [List.length_append, List.length_cons, List.length_nil]; omega) ?_
        refine RL.p rfl (RL.nil ?_)
        exact NQ.midG () trivial (.cons rfl (.cons rfl (.cons (k := 6) (by rw [htn]; rfl) .nil))) (fun w h => h.rea (fun _ h => h) (by repeat (first | exact Rea.nil | (apply Rea.cons; (solve | (repeat (first | exact Del.here | apply Del.there)))))))
      ·
        refine RL.buildOwn [_] Tryz.runUnderlying61 Tryz.sizeOf3 Tryz.zeroValue3 rfl rfl (by decide) (by decide) rfl (by decide) rfl rfl rfl rfl rfl rfl ?_
        intro b4
        refine RL.buildOwn [_, _, _] Tryz.runUnderlying61 Tryz.sizeOf3 Tryz.zeroValue3 rfl rfl (by decide) (by decide) rfl (by decide) rfl rfl rfl rfl rfl rfl ?_
        intro b3
        refine RL.callv (hrow nClock [P.de, P.ra, P.mo] b3 3 rfl (by simp [Pl.nums]) (by decide) (by decide)) Tryz.call34 rfl rfl rfl rfl (Lend.ownE (ob := some b3) (cap := 3) (nn := 3) (by repeat (first | exact List.Mem.head _ | apply List.Mem.tail)) rfl rfl .nil) ?_
        refine RL.addTxt (b := [10#8]) rfl rfl rfl rfl rfl (by simp only [List.length_append, List.length_cons, List.length_nil]; omega) ?_
        refine RL.callv (hrow nTrace [P.sz] b4 1 rfl (by simp [Pl.nums]) (by decide) (by decide)) Tryz.call34 rfl rfl rfl rfl (Lend.ownE (ob := some b4) (cap := 1) (nn := 1) (by repeat (first | exact List.Mem.head _ | apply List.Mem.tail)) rfl rfl .nil) ?_
        refine RL.addTxt (b := rowT nTrace [P.sz]) rfl rfl rfl rfl rfl (by simp only [List.length_append, List.length_cons, List.length_nil]; omega) ?_
        refine RL.addTxt (b := [10#8]) rfl rfl rfl rfl rfl (by simp only [List.length_append, List.length_cons, List.length_nil]; omega) ?_
        refine RL.addTxt (a := tz) rfl rfl rfl rfl rfl (by simp only [List.length_append, List.length_cons, List.length_nil]; omega) ?_
        refine RL.p rfl (RL.nil ?_)
        exact NQ.midG () trivial (.cons rfl (.cons rfl (.cons (k := 6) (by rw [htn]; rfl) .nil))) (fun w h => h.rea (fun _ h => h) (by repeat (first | exact Rea.nil | (apply Rea.cons; (solve | (repeat (first | exact Del.here | apply Del.there)))))))
    rintro - -
    have hnine : tn = (nineP P).flatMap lnP := by rw [htn, htz, hty, htx, ln_nine]
    clear htx hty htz htn n3 n4 n5 n6 n7 hcl8 hcl9 htl htyl htzl hrow hlen c0 c1 c2 c3 c4 c5 c6 c7 c8 c9 c10 c11
    refine CW.seq (CW.seq (CW.rg (RL.p rfl (RL.nil (NQ.seq (CW.block (CW.loop (γ := Nat) (fun i => i ≤ P.cf.L.length) (fun i => [(1, .pointer (some ⟨b1, 0, none⟩)), (5, .pointer (some ⟨b2, 0, none⟩)), (6, strV (tn ++ sL (P.cf.L.take i))), (7, .int .i64 (i : Int))]) (fun _ => J2) (fun _ => []) (fun i => P.cf.L.length - i) 0 (Nat.zero_le _) (.cons rfl (.cons rfl (.cons (k := 6) (by rw [show tn ++ sL (P.cf.L.take 0) = tn by simp [sL]]; rfl) (.cons rfl .nil)))) (fun w h => h.rea (fun _ h => h) (by repeat (first | exact Rea.nil | (apply Rea.cons; (solve | (repeat (first | exact Del.here | apply Del.there))))))) ?_)))))))
    intro i hi
    have hsl := sL_len (L := P.cf.L.take i) (fun s hs => hA.L s (List.mem_of_mem_take hs))
    rw [List.length_take] at hsl
    refine CW.fact (p := oa = none → P.cf.L.length = 0) (fun w hC e => sls_nil (hC.s.i _ k2) (by rw [e]; rfl)) (fun hpa => ?_)
    refine CW.seq (CW.seq (CW.rg (RL.p rfl (RL.fieldAddr fa_40_0 rfl rfl rfl rfl (RL.loadq Tryz.isAgg37 rfl rfl rfl rfl ?_)))))
    refine RL.lenS Tryz.runUnderlying37 rfl rfl rfl rfl (RL.p rfl (RL.nil (NQ.seq ?_)))
    refine CW.cond rfl (fun hlt => ?_) (fun hlt => ?_)
    ·
      have hlt' : i < P.cf.L.length := by simp at hlt; omega
      cases oa with
      | none => exact absurd (hpa rfl) (by omega)
      | some ba =>
      have hx := List.getElem?_eq_getElem hlt'
      generalize P.cf.L[i] = s at hx
      have hsm := List.mem_of_getElem? hx
      have hst := sL_step hx
      have hsA := hA.L s hsm
      have hrt := hsA.rt
      have hs48 := hLl s hsm
      have fB : RdsN J2 ⟨ba, 0 + i * 48, none⟩ 48 s.cells := flat_rdsN (f := Sr.cells) k2 hx hLl
      obtain ⟨tx, htx⟩ : ∃ t : Tx, t = tn ++ sL (P.cf.L.take i) := ⟨_, rfl⟩
      have htxl : tx.length ≤ 300000 := by rw [htx, List.length_append]; omega
      rw [← htx]
      have hh := hsA.n
      have hrw2 := rowT_len (nm := nSource) (l := [s.id, s.kd]) (fun v hv => hh v (by simp only [List.mem_cons, List.not_mem_nil, or_false] at hv; rcases hv with rfl | rfl <;> simp [Sr.nums]))
      have hrw2 : (rowT nSource [s.id, s.kd]).length ≤ 50 := hrw2
      have hvN : ∀ v ∈ srcN s, i64 v := fun v hv => hh v (by have hv : v ∈ srcN s := hv; show v ∈ s.id :: s.kd :: srcN s; exact List.mem_cons_of_mem _ (List.mem_cons_of_mem _ hv))
      have hrwN : (rowT [] (srcN s)).length ≤ 308 := by
        have h1 := rowT_len (nm := []) hvN
        have h2 : (srcN s).length = 14 := rfl
        have h3 : ([] : Tx).length = 0 := rfl
        omega
      have hhx : (hexT s.rt).length = 64 := by rw [hexT_len, hrt]
      refine CW.skip (NQ.seq (CW.seq (CW.block (CW.seq (CW.region (ef := [5, 6]) (bk := [6]) (RL.fieldAddr fa_40_0 rfl rfl rfl rfl (RL.loadq Tryz.isAgg37 rfl rfl rfl rfl ?_)))))))
      refine RL.p rfl (RL.idxAt (j := i) Tryz.runUnderlying37 Tryz.sizeOf108 rfl rfl rfl rfl rfl rfl (hlt') (RL.loadSq Tryz.isAgg108 Tryz.sizeOf108 rfl rfl rfl rfl ?_))
      refine RL.alloc Tryz.zeroValue108 rfl rfl rfl rfl rfl ?_
      intro b3
      refine RL.storeW Tryz.sizeOf108 rfl rfl rfl rfl rfl rfl rfl (sr_ones s) (by repeat (first | exact Upd.here | apply Upd.there)) hs48 rfl ?_
      refine RL.nil (NQ.seq (CW.ok [1, 5, 6, 7, 8] rfl (CW.seq (CW.freezeAll rfl ?_))))
      refine CW.genI (fun J3 hJ => ?_)
      have h3 : ∀ x ∈ J2, x ∈ J3 := fun x hx => hJ x (by simp [hx])
      have n3 : cel b3 s.cells 108 ∈ J3 := hJ _ (by simp)
      clear hJ fB
      have xw : RdsN J3 ⟨b3, 0 + 38, none⟩ 10 s.wt.cells := RdsN.told n3 (fun j u hu => by rw [sr_w hrt j]; exact hu) rfl
      refine CW.region (ef := [2, 3]) (bk := [3]) (RL.fieldAddr fa_108_7 rfl rfl rfl rfl (RL.loadSq Tryz.isAgg106 Tryz.sizeOf106 rfl rfl rfl rfl ?_))
      refine RL.alloc Tryz.zeroValue106 rfl rfl rfl rfl rfl ?_
      intro b4
      refine RL.storeW Tryz.sizeOf106 rfl rfl rfl rfl rfl rfl rfl rfl (by repeat (first | exact Upd.here | apply Upd.there)) rfl rfl ?_
      refine RL.nil (NQ.seq (CW.seq (CW.freezeAll rfl ?_)))
      refine CW.genI (fun J4 hJ => ?_)
      have h4 : ∀ x ∈ J2, x ∈ J4 := fun x hx => hJ x (List.mem_append_right _ (h3 x hx))
      have n6 : cel b4 s.wt.cells 106 ∈ J4 := hJ _ (by simp)
      have n3 : cel b3 s.cells 108 ∈ J4 := hJ _ (List.mem_append_right _ n3)
      clear hJ xw
      have x0 : RdI J4 ⟨b3, 0 + 0, none⟩ (.int .i64 s.id) := ⟨fun _ => Rd.celI n3 rfl⟩
      have x1 : RdI J4 ⟨b3, 0 + 1, none⟩ (.int .i64 s.kd) := ⟨fun _ => Rd.celI n3 rfl⟩
      have hrl : (bytes s.rt).length = 32 := by rw [List.length_map, hrt]
      have xk : RdsN J4 ⟨b3, 0 + 2, none⟩ 32 (bytes s.rt) := RdsN.told n3 (fun j u hj => by
        rw [show 0 + 2 + j = j + 1 + 1 by omega, Sr.cells]
        simp only [List.getElem?_cons_succ]
        rw [List.getElem?_append_left (List.getElem?_eq_some_iff.1 hj).1]; exact hj) hrl
      have y0 : RdI J4 ⟨b3, 0 + 34, none⟩ (.int .i64 s.w) := ⟨fun _ => Rd.getI n3 (sr_t hrt 0)⟩
      have y1 : RdI J4 ⟨b3, 0 + 35, none⟩ (.int .i64 s.g) := ⟨fun _ => Rd.getI n3 (sr_t hrt 1)⟩
      have y2 : RdI J4 ⟨b3, 0 + 36, none⟩ (.int .i64 s.st) := ⟨fun _ => Rd.getI n3 (sr_t hrt 2)⟩
      have y3 : RdI J4 ⟨b3, 0 + 37, none⟩ (.int .i64 s.hz) := ⟨fun _ => Rd.getI n3 (sr_t hrt 3)⟩
      have q0 : RdI J4 ⟨b4, 0 + 0 + 0, none⟩ (.int .i64 s.wt.go) := ⟨fun _ => Rd.celI n6 rfl⟩
      have q1 : RdI J4 ⟨b4, 0 + 0 + 1, none⟩ (.int .i64 s.wt.gg) := ⟨fun _ => Rd.celI n6 rfl⟩
      have q2 : RdI J4 ⟨b4, 0 + 0 + 2, none⟩ (.int .i64 s.wt.gm) := ⟨fun _ => Rd.celI n6 rfl⟩
      have r3 : RdI J4 ⟨b4, 0 + 3, none⟩ (.int .i64 s.wt.sl) := ⟨fun _ => Rd.celI n6 rfl⟩
      have r4 : RdI J4 ⟨b4, 0 + 4, none⟩ (.int .i64 s.wt.mo) := ⟨fun _ => Rd.celI n6 rfl⟩
      have r5 : RdI J4 ⟨b4, 0 + 5, none⟩ (.int .i64 s.wt.sa) := ⟨fun _ => Rd.celI n6 rfl⟩
      have r6 : RdI J4 ⟨b4, 0 + 6, none⟩ (.int .i64 s.wt.ra) := ⟨fun _ => Rd.celI n6 rfl⟩
      have r7 : RdI J4 ⟨b4, 0 + 7, none⟩ (.int .i64 s.wt.ba) := ⟨fun _ => Rd.celI n6 rfl⟩
      have r8 : RdI J4 ⟨b4, 0 + 8, none⟩ (.int .i64 s.wt.ho) := ⟨fun _ => Rd.celI n6 rfl⟩
      have r9 : RdI J4 ⟨b4, 0 + 9, none⟩ (.int .i64 s.wt.pr) := ⟨fun _ => Rd.celI n6 rfl⟩
      obtain ⟨ty, hty⟩ : ∃ t : Tx, t = tx ++ ((rowT nSource [s.id, s.kd] ++ [32#8]) ++ hexT s.rt) := ⟨_, rfl⟩
      have htyl : ty.length ≤ 301000 := by rw [hty]; simp only [List.length_append, List.length_cons, List.length_nil]; omega
      refine CW.cutG (γ := Unit) (fun _ => True) (fun _ => [(1, .pointer (some ⟨b1, 0, none⟩)), (5, .pointer (some ⟨b2, 0, none⟩)), (6, strV ty), (7, .int .i64 (i : Int)), (8, .pointer (some ⟨b3, 0, none⟩)), (9, .pointer (some ⟨b4, 0, none⟩))]) (fun _ => J4) (fun _ => []) ?_ ?_
      ·
        have hlx := hi
        refine CW.regionD (Sq.of [0, 1, 2, 3, 4, 8, 9, 5, 6, 7, 10, 11, 12, 13]) [5] [] [0, 1, 2, 3, 4, 7, 8, 9, 10, 11, 12, 13] mixed (by kernel_rfl) ?_
        refine RL.p rfl (RL.fieldAddr fa_108_0 rfl rfl rfl rfl (RL.loadTq Tryz.isAgg3 rfl rfl rfl rfl ?_))
        refine RL.fieldAddr fa_108_1 rfl rfl rfl rfl (RL.loadTq Tryz.isAgg3 rfl rfl rfl rfl ?_)
        refine RL.fieldAddr fa_108_2 rfl rfl rfl rfl (RL.loadSTq Tryz.isAgg29 Tryz.sizeOf29 rfl rfl rfl rfl ?_)
        refine RL.buildOwn [_, _] Tryz.runUnderlying61 Tryz.sizeOf3 Tryz.zeroValue3 rfl rfl (by decide) (by decide) rfl (by decide) rfl rfl rfl rfl rfl rfl ?_
        intro b5
        refine RL.callv (rrow_any nSource (some ⟨b5, 0, none⟩) 2 2 [s.id, s.kd] rfl (fun v hv => hh v (by simp only [List.mem_cons, List.not_mem_nil, or_false] at hv; rcases hv with rfl | rfl <;> simp [Sr.nums])) (by decide) (by decide)) Tryz.call34 rfl rfl rfl rfl (Lend.ownE (ob := some b5) (cap := 2) (nn := 2) (by repeat (first | exact List.Mem.head _ | apply List.Mem.tail)) rfl rfl .nil) ?_
        refine RL.addTxt (b := [32#8]) rfl rfl rfl rfl rfl (by simp only [List.length_append, List.length_cons, List.length_nil]; omega) ?_
        refine RL.callvT (rhex_any s.rt hrt) Tryz.call35 rfl rfl rfl rfl .nil (RL.addTxt (b := hexT s.rt) rfl rfl rfl rfl rfl (by simp only [List.length_append, List.length_cons, List.length_nil]; omega) ?_)
        refine RL.addTxt (a := tx) rfl rfl rfl rfl rfl (by simp only [List.length_append, List.length_cons, List.length_nil]; omega) ?_
        refine RL.p rfl (RL.nil ?_)
        exact NQ.midG () trivial (.cons rfl (.cons rfl (.cons (k := 6) (by rw [hty]; rfl) (.cons rfl (.cons rfl (.cons rfl .nil)))))) (fun w h => h.rea (fun _ h => h) (by repeat (first | exact Rea.nil | (apply Rea.cons; (solve | (repeat (first | exact Del.here | apply Del.there)))))))
      rintro - -
      refine CW.seq (CW.seq (CW.rg (RL.fieldAddr fa_108_1 rfl rfl rfl rfl (RL.loadq Tryz.isAgg3 rfl rfl rfl rfl ?_))))
      refine RL.p rfl (RL.p rfl ?_)
      apply RL.andB (d := 129) (dp := 133) (l' := (Sq.of [])) rfl (sK [1, 5, 6, 7, 8, 9] rfl)
      ·
        intro hb4 K4
        refine RL.fieldAddr fa_108_1 rfl rfl rfl rfl (RL.loadq Tryz.isAgg3 rfl rfl rfl rfl ?_)
        refine RL.p rfl (RL.p rfl ?_)
        exact K4 _ (.cons rfl (sK [1, 5, 6, 7, 8, 9] rfl))
      ·
        intro hb4 K4
        refine RL.p rfl (RL.p rfl (RL.p rfl (RL.p rfl ?_)))
        exact K4 _ (.cons rfl (sK [1, 5, 6, 7, 8, 9] rfl))
      refine RL.nil (NQ.seq ?_)
      obtain ⟨tz, htz⟩ : ∃ t : Tx, t = ty ++ (if aidB s.kd = true then rowT [] (srcN s) else []) := ⟨_, rfl⟩
      have htzl : tz.length ≤ 302000 := by
        rw [htz, List.length_append]
        by_cases hq : aidB s.kd = true
        · rw [if_pos hq]; omega
        · rw [if_neg hq, List.length_nil]; omega
      refine CW.cutG (γ := Unit) (fun _ => True) (fun _ => [(1, .pointer (some ⟨b1, 0, none⟩)), (5, .pointer (some ⟨b2, 0, none⟩)), (6, strV tz), (7, .int .i64 (i : Int))]) (fun _ => J4) (fun _ => []) ?_ ?_
      ·
        refine CW.cond rfl (fun ha => ?_) (fun ha => ?_)
        ·
          have haB : aidB s.kd = true := by simp [aidB] at ha ⊢; omega
          rw [if_pos haB] at htz
          refine CW.region (ef := [32]) (bk := []) (RL.p rfl (RL.fieldAddr fa_108_3 rfl rfl rfl rfl (RL.loadq Tryz.isAgg3 rfl rfl rfl rfl ?_)))
          refine RL.fieldAddr fa_108_4 rfl rfl rfl rfl (RL.loadq Tryz.isAgg3 rfl rfl rfl rfl ?_)
          refine RL.fieldAddr fa_108_5 rfl rfl rfl rfl (RL.loadq Tryz.isAgg23 rfl rfl rfl rfl ?_)
          refine RL.fieldAddr fa_108_6 rfl rfl rfl rfl (RL.loadq Tryz.isAgg3 rfl rfl rfl rfl ?_)
          refine RL.fieldAddr fa_106_0 rfl rfl rfl rfl (RL.fieldAddr fa_104_0 rfl rfl rfl rfl (RL.loadq Tryz.isAgg23 rfl rfl rfl rfl ?_))
          refine RL.fieldAddr fa_106_0 rfl rfl rfl rfl (RL.fieldAddr fa_104_1 rfl rfl rfl rfl (RL.loadq Tryz.isAgg23 rfl rfl rfl rfl ?_))
          refine RL.fieldAddr fa_106_0 rfl rfl rfl rfl (RL.fieldAddr fa_104_2 rfl rfl rfl rfl (RL.loadq Tryz.isAgg23 rfl rfl rfl rfl ?_))
          refine RL.fieldAddr fa_106_1 rfl rfl rfl rfl (RL.loadq Tryz.isAgg23 rfl rfl rfl rfl ?_)
          refine RL.fieldAddr fa_106_2 rfl rfl rfl rfl (RL.loadq Tryz.isAgg23 rfl rfl rfl rfl ?_)
          refine RL.fieldAddr fa_106_3 rfl rfl rfl rfl (RL.loadq Tryz.isAgg3 rfl rfl rfl rfl ?_)
          refine RL.fieldAddr fa_106_4 rfl rfl rfl rfl (RL.loadq Tryz.isAgg23 rfl rfl rfl rfl ?_)
          refine RL.fieldAddr fa_106_5 rfl rfl rfl rfl (RL.loadq Tryz.isAgg3 rfl rfl rfl rfl ?_)
          refine RL.fieldAddr fa_106_6 rfl rfl rfl rfl (RL.loadq Tryz.isAgg3 rfl rfl rfl rfl ?_)
          refine RL.fieldAddr fa_106_7 rfl rfl rfl rfl (RL.loadq Tryz.isAgg3 rfl rfl rfl rfl ?_)
          refine RL.buildOwn (ints (srcN s)) Tryz.runUnderlying61 Tryz.sizeOf3 Tryz.zeroValue3 rfl rfl (by decide) (by decide) rfl (by decide) rfl rfl rfl rfl rfl (by kernel_rfl) ?_
          intro b5
          refine RL.callv (rrow_any [] (some ⟨b5, 0, none⟩) 14 14 (srcN s) rfl hvN (by decide) (by decide)) Tryz.call34 rfl rfl rfl rfl (Lend.ownE (ob := some b5) (cap := 14) (nn := 14) (by repeat (first | exact List.Mem.head _ | apply List.Mem.tail)) rfl rfl .nil) ?_
          refine RL.addTxt (a := ty) (b := rowT [] (srcN s)) rfl rfl rfl rfl rfl (by omega) ?_
          refine RL.p rfl (RL.nil ?_)
          exact NQ.midG () trivial (.cons rfl (.cons rfl (.cons (k := 6) (by rw [htz]; rfl) (.cons rfl .nil)))) (fun w h => h.rea (fun _ h => h) (by repeat (first | exact Rea.nil | (apply Rea.cons; (solve | (repeat (first | exact Del.here | apply Del.there)))))))
        ·
          have haB : ¬ aidB s.kd = true := by simp [aidB] at ha ⊢; omega
          rw [if_neg haB, List.append_nil] at htz
          refine CW.skip ?_
          exact NQ.midG () trivial (.cons rfl (.cons rfl (.cons (k := 6) (by rw [htz]; rfl) (.cons rfl .nil)))) (fun w h => h.rea (fun _ h => h) (by repeat (first | exact Rea.nil | (apply Rea.cons; (solve | (repeat (first | exact Del.here | apply Del.there)))))))
      rintro - -
      refine CW.rg (RL.p rfl (RL.addTxt (a := tz) (b := [10#8]) rfl rfl rfl rfl rfl (by simp only [List.length_append, List.length_cons, List.length_nil]; omega) ?_))
      refine RL.p rfl (RL.nil (NQ.block (NQ.seq (CW.rg (RL.p rfl (RL.bx rfl (wrapV_i64 (by omega) (by omega)) ?_))))))
      refine RL.p rfl (RL.nil ?_)
      refine NQ.round (g := i) (i + 1) hlt' (by show P.cf.L.length - (i + 1) < P.cf.L.length - i; omega) (.cons rfl (.cons rfl (.cons (k := 6) (by rw [hst, ln_src, htz, hty, htx]; simp only [List.append_assoc]; rfl) (.cons rfl .nil)))) (fun w h => h.rea h4 (by repeat (first | exact Rea.nil | (apply Rea.cons; (solve | (repeat (first | exact Del.here | apply Del.there)))))))
    · have hin : i = P.cf.L.length := by simp at hlt; omega
      subst hin
      rw [List.take_length] at hsl ⊢
      obtain ⟨lS, hlS⟩ : ∃ m, m = tn ++ sL P.cf.L := ⟨_, rfl⟩
      have hlS2 : lS.length ≤ 300000 := by rw [hlS, List.length_append]; omega
      rw [← hlS]
      clear hsl hi
      refine CW.exit (XQ.seq (XQ.seq (XQ.hit (NQ.seq (CW.ok [1, 6] rfl (CW.seq (CW.seq (CW.rg (RL.p rfl (RL.nil (NQ.seq (CW.block (CW.loop (γ := Nat) (fun i => i ≤ P.zs.length) (fun i => [(1, .pointer (some ⟨b1, 0, none⟩)), (6, strV (lS ++ zL (P.zs.take i))), (10, .int .i64 (i : Int))]) (fun _ => J2) (fun _ => []) (fun i => P.zs.length - i) 0 (Nat.zero_le _) (.cons rfl (.cons (k := 6) (by rw [show lS ++ zL (P.zs.take 0) = lS by simp [zL]]; rfl) (.cons rfl .nil))) (fun w h => h.rea (fun _ h => h) (by repeat (first | exact Rea.nil | (apply Rea.cons; (solve | (repeat (first | exact Del.here | apply Del.there))))))) ?_)))))))))))))
      intro i hi
      have hzl := zL_len (L := P.zs.take i) (fun s hs => hA.z s (List.mem_of_mem_take hs))
      rw [List.length_take] at hzl
      refine CW.fact (p := oz = none → P.zs.length = 0) (fun w hC e => sls_nil (hC.s.i _ k3) (by rw [e]; rfl)) (fun hpz => ?_)
      refine CW.seq (CW.seq (CW.rg (RL.p rfl (RL.fieldAddr fa_43_1 rfl rfl rfl rfl (RL.loadq Tryz.isAgg41 rfl rfl rfl rfl ?_)))))
      refine RL.lenS Tryz.runUnderlying41 rfl rfl rfl rfl (RL.p rfl (RL.nil (NQ.seq ?_)))
      refine CW.cond rfl (fun hlt2 => ?_) (fun hlt2 => ?_)
      ·
        have hlt' : i < P.zs.length := by simp at hlt2; omega
        cases oz with
        | none => exact absurd (hpz rfl) (by omega)
        | some bz =>
        have hzlen := hP.len
        obtain ⟨⟨z, oc, cc⟩, hz⟩ : ∃ z, ZL[i]? = some z := ⟨_, List.getElem?_eq_getElem (by omega)⟩
        have hzm := List.mem_of_getElem? hz
        have hz1 : P.zs[i]? = some z := by rw [← hP.zl, List.getElem?_map, hz]; rfl
        have hzA := hA.z z (List.mem_of_getElem? hz1)
        have hzn := hzA.n
        have hst := zL_step hz1
        have fB : RdsN J2 ⟨bz, 0 + i * 4, none⟩ 4 (znO (z, oc, cc)) := flat_rdsN (f := znO) k3 hz (fun z _ => znO_len z)
        obtain ⟨tx, htx⟩ : ∃ t : Tx, t = lS ++ zL (P.zs.take i) := ⟨_, rfl⟩
        have htxl : tx.length ≤ 300000000 := by rw [htx, List.length_append]; omega
        rw [← htx]
        refine CW.skip (NQ.seq (CW.seq (CW.block (CW.seq (CW.region (ef := [5, 6]) (bk := [6]) (RL.fieldAddr fa_43_1 rfl rfl rfl rfl (RL.loadq Tryz.isAgg41 rfl rfl rfl rfl ?_)))))))
        refine RL.p rfl (RL.idxAt (j := i) Tryz.runUnderlying41 Tryz.sizeOf77 rfl rfl rfl rfl rfl rfl (hlt') (RL.loadSq Tryz.isAgg77 Tryz.sizeOf77 rfl rfl rfl rfl ?_))
        refine RL.alloc Tryz.zeroValue77 rfl rfl rfl rfl rfl ?_
        intro b3
        refine RL.storeW Tryz.sizeOf77 rfl rfl rfl rfl rfl rfl rfl rfl (by repeat (first | exact Upd.here | apply Upd.there)) rfl rfl ?_
        refine RL.nil (NQ.seq (CW.ok [1, 6, 10, 11] rfl (CW.seq (CW.freezeAll rfl ?_))))
        refine CW.genI (fun J3 hJ => ?_)
        have h3 : ∀ x ∈ J2, x ∈ J3 := fun x hx => hJ x (by simp [hx])
        have n3 : cel b3 (znO (z, oc, cc)) 77 ∈ J3 := hJ _ (by simp)
        clear hJ fB
        have ms : sls (oc.map fun b => ⟨b, 0, none⟩) 2 z.L.length (z.L.flatMap Pt.cells) ∈ J3 := h3 _ (k4 _ hzm)
        have g0 : RdI J3 ⟨b3, 0 + 0, none⟩ (.bool z.keep) := ⟨fun _ => Rd.celI n3 rfl⟩
        have g1 : RdI J3 ⟨b3, 0 + 1, none⟩ (slO oc z.L.length cc) := ⟨fun _ => Rd.celI n3 rfl⟩
        have g2 : RdI J3 ⟨b3, 0 + 2, none⟩ (.int .i64 z.fl) := ⟨fun _ => Rd.celI n3 rfl⟩
        have g3 : RdI J3 ⟨b3, 0 + 3, none⟩ (.int .i64 z.rf) := ⟨fun _ => Rd.celI n3 rfl⟩
        obtain ⟨nm, hnm⟩ : ∃ t : Tx, t = zonM z.keep := ⟨_, rfl⟩
        have hnml : nm.length ≤ 10 := by rw [hnm]; cases z.keep <;> decide
        refine CW.rg (RL.p rfl (RL.nil (NQ.seq (CW.seq (CW.seq (CW.rg (RL.fieldAddr fa_77_0 rfl rfl rfl rfl (RL.loadq Tryz.isAgg4 rfl rfl rfl rfl ?_))))))))
        refine RL.nil (NQ.seq ?_)
        refine CW.cutG (γ := Unit) (fun _ => True) (fun _ => [(1, .pointer (some ⟨b1, 0, none⟩)), (6, strV tx), (10, .int .i64 (i : Int)), (11, .pointer (some ⟨b3, 0, none⟩)), (12, strV nm)]) (fun _ => J3) (fun _ => []) ?_ ?_
        ·
          refine CW.cond rfl (fun hk => ?_) (fun hk => ?_)
          · rw [hk] at hnm
            rw [hnm]
            refine CW.rg (RL.p rfl (RL.nil ?_))
            exact NQ.midG () trivial (.cons rfl (.cons rfl (.cons rfl (.cons rfl (.cons rfl .nil))))) (fun w h => h)
          · rw [hk] at hnm
            rw [hnm]
            refine CW.skip ?_
            exact NQ.midG () trivial (.cons rfl (.cons rfl (.cons rfl (.cons rfl (.cons rfl .nil))))) (fun w h => h)
        rintro - -
        refine CW.seq (CW.region (ef := [4]) (bk := []) (RL.fieldAddr fa_77_2 rfl rfl rfl rfl (RL.loadq Tryz.isAgg23 rfl rfl rfl rfl ?_)))
        refine RL.fieldAddr fa_77_3 rfl rfl rfl rfl (RL.loadq Tryz.isAgg23 rfl rfl rfl rfl ?_)
        refine RL.buildOwn [_, _] Tryz.runUnderlying61 Tryz.sizeOf3 Tryz.zeroValue3 rfl rfl (by decide) (by decide) rfl (by decide) rfl rfl rfl rfl rfl rfl ?_
        intro b4
        refine RL.p rfl (RL.nil (NQ.seq (CW.seq (CW.seq (CW.rg (RL.p rfl (RL.nil (NQ.seq (CW.block (CW.loop (γ := Nat × Option Nat × Nat) (fun g => g.1 ≤ z.L.length) (fun g => [(1, .pointer (some ⟨b1, 0, none⟩)), (6, strV tx), (10, .int .i64 (i : Int)), (11, .pointer (some ⟨b3, 0, none⟩)), (12, strV nm), (13, slO g.2.1 (2 + 2 * g.1) g.2.2), (14, .int .i64 (g.1 : Int))]) (fun _ => J3) (fun g => [own g.2.1 g.2.2 3 1 (2 + 2 * g.1) (ints ([z.fl, z.rf] ++ ptN (z.L.take g.1)))]) (fun g => z.L.length - g.1) (0, some b4, 2) (Nat.zero_le _) (.cons rfl (.cons rfl (.cons rfl (.cons rfl (.cons rfl (.cons rfl (.cons rfl .nil))))))) (fun w h => h) ?_))))))))))
        rintro ⟨k, oq, cq⟩ hk
        dsimp only at hk ⊢
        refine CW.fact (p := oc = none → z.L.length = 0) (fun w hC e => sls_nil (hC.s.i _ ms) (by rw [e]; rfl)) (fun hpc => ?_)
        refine CW.seq (CW.seq (CW.rg (RL.p rfl (RL.fieldAddr fa_77_1 rfl rfl rfl rfl (RL.loadq Tryz.isAgg75 rfl rfl rfl rfl ?_)))))
        refine RL.lenS Tryz.runUnderlying75 rfl rfl rfl rfl (RL.p rfl (RL.nil (NQ.seq ?_)))
        refine CW.cond rfl (fun hlk => ?_) (fun hlk => ?_)
        ·
          have hlk' : k < z.L.length := by simp at hlk; omega
          cases oc with
          | none => exact absurd (hpc rfl) (by omega)
          | some bc =>
          have hx := List.getElem?_eq_getElem hlk'
          generalize z.L[k] = pt at hx
          have hsp := ptN_step hx
          have e0 : RdI J3 ⟨bc, 0 + k * 2 + 0 * 1, none⟩ (.int .i64 pt.1) := flat_rdI (f := Pt.cells) ms hx (fun _ _ => rfl) rfl
          have e1 : RdI J3 ⟨bc, 0 + k * 2 + 1 * 1, none⟩ (.int .i64 pt.2) := flat_rdI (f := Pt.cells) ms hx (fun _ _ => rfl) rfl
          refine CW.skip (NQ.seq (CW.seq (CW.block (CW.regionD (Sq.of [0, 1, 2, 3, 4, 5, 6, 7, 8, 9, 10, 11, 12, 13, 14, 15]) [13, 14] [14] [0, 1, 2, 3, 4, 5, 6, 7, 8, 9, 10, 11, 12, 15] mixed (by kernel_rfl) ?_))))
          refine RL.p rfl (RL.fieldAddr fa_77_1 rfl rfl rfl rfl (RL.loadTq Tryz.isAgg75 rfl rfl rfl rfl ?_))
          refine RL.p rfl (RL.idxAt (j := k) Tryz.runUnderlying75 Tryz.sizeOf79 rfl rfl rfl rfl rfl rfl (hlk') (RL.idxAAt (j := 0) Tryz.runUnderlying79 Tryz.sizeOf23 rfl rfl rfl rfl rfl rfl (by decide) ?_))
          refine RL.loadTq Tryz.isAgg23 rfl rfl rfl rfl ?_
          refine RL.fieldAddr fa_77_1 rfl rfl rfl rfl (RL.loadTq Tryz.isAgg75 rfl rfl rfl rfl ?_)
          refine RL.p rfl (RL.idxAt (j := k) Tryz.runUnderlying75 Tryz.sizeOf79 rfl rfl rfl rfl rfl rfl (hlk') (RL.idxAAt (j := 1) Tryz.runUnderlying79 Tryz.sizeOf23 rfl rfl rfl rfl rfl rfl (by decide) ?_))
          refine RL.loadTq Tryz.isAgg23 rfl rfl rfl rfl ?_
          refine RL.buildSlice [_, _] Tryz.runUnderlying61 Tryz.sizeOf3 Tryz.zeroValue3 rfl rfl (by decide) (by decide) rfl rfl rfl rfl rfl rfl ?_
          intro b5
          refine RL.appendq el_61 rfl rfl rfl rfl rfl rfl rfl ?_
          intro ob1 cap1 ho1
          refine RL.p rfl (RL.nil (NQ.block (NQ.seq (CW.ok [1, 6, 10, 11, 12, 13, 14] rfl (CW.rg (RL.p rfl (RL.bx rfl (wrapV_i64 (by omega) (by omega)) ?_)))))))
          refine RL.p rfl (RL.nil ?_)
          refine NQ.round (g := (k, oq, cq)) (k + 1, ob1, cap1) hlk' (by show z.L.length - (k + 1) < z.L.length - k; omega) (.cons rfl (.cons rfl (.cons rfl (.cons rfl (.cons rfl (.cons (k := 13) (by rw [show 2 + 2 * (k + 1) = 2 + 2 * k + 2 by omega]; rfl) (.cons rfl .nil))))))) (fun w h => by dsimp only; rw [hsp, show 2 + 2 * (k + 1) = 2 + 2 * k + 2 by omega, ← List.append_assoc, show ints ([z.fl, z.rf] ++ ptN (z.L.take k) ++ [pt.1, pt.2]) = ints ([z.fl, z.rf] ++ ptN (z.L.take k)) ++ [.int .i64 pt.1, .int .i64 pt.2] from List.map_append]; exact h.rea (fun _ h => h) (by repeat (first | exact Rea.nil | (apply Rea.cons; (solve | (repeat (first | exact Del.here | apply Del.there)))))))
        · have hkn : k = z.L.length := by simp at hlk; omega
          subst hkn
          rw [List.take_length]
          have hzN : [z.fl, z.rf] ++ ptN z.L = zonN z := rfl
          have hzi : ∀ v ∈ zonN z, i64 v := fun v hv => by
            rcases List.mem_cons.1 hv with rfl | hv
            · exact hzA.fl
            rcases List.mem_cons.1 hv with rfl | hv
            · exact hzA.rf
            · obtain ⟨p, hp, hv⟩ := List.mem_flatMap.1 hv
              simp only [List.mem_cons, List.not_mem_nil, or_false] at hv
              rcases hv with rfl | rfl
              · exact (hzA.L p hp).1
              · exact (hzA.L p hp).2
          rw [hzN]
          have hzN2 := zonN_len z
          have hrl := rowT_len (nm := nm) hzi
          refine CW.exit (XQ.seq (XQ.seq (XQ.hit (NQ.seq (CW.ok [1, 6, 10, 12, 13] rfl (CW.rg (RL.p rfl (RL.p rfl (RL.p rfl (RL.callv (rrow_any nm (oq.map fun b => ⟨b, 0, none⟩) cq _ (zonN z) hzN2 hzi (by omega) (by omega)) Tryz.call34 rfl rfl rfl rfl (Lend.own (by repeat (first | exact List.Mem.head _ | apply List.Mem.tail)) .nil) ?_))))))))))
          refine RL.addTxt (b := [10#8]) rfl rfl rfl rfl rfl (by simp only [List.length_append, List.length_cons, List.length_nil]; omega) ?_
          refine RL.addTxt (a := tx) rfl rfl rfl rfl rfl (by simp only [List.length_append, List.length_cons, List.length_nil]; omega) ?_
          refine RL.p rfl (RL.nil (NQ.block (NQ.seq (CW.ok [1, 6, 10] rfl (CW.rg (RL.p rfl (RL.bx rfl (wrapV_i64 (by omega) (by omega)) ?_)))))))
          refine RL.p rfl (RL.nil ?_)
          refine NQ.round (g := i) (i + 1) hlt' (by show P.zs.length - (i + 1) < P.zs.length - i; omega) (.cons rfl (.cons (k := 6) (by rw [hst, ln_zon, htx, hnm]; simp only [List.append_assoc]; rfl) (.cons rfl .nil))) (fun w h => h.rea h3 (by repeat (first | exact Rea.nil | (apply Rea.cons; (solve | (repeat (first | exact Del.here | apply Del.there)))))))
      · have hin : i = P.zs.length := by simp at hlt2; omega
        subst hin
        rw [List.take_length]
        refine CW.exit (XQ.seq (XQ.seq (XQ.hit (NQ.seq (CW.ok [6] rfl (CW.seq (CW.rg (RL.p rfl (RL.p rfl (RL.p rfl (RL.nil (NQ.seq (CW.ret ?_)))))))))))))
        refine RQ.post (res2 rfl rfl rfl) (Split.none _) ⟨?_, rfl, rfl⟩
        rw [prV, if_pos he', prT_eq, hlS, hnine]
end Go.Proofs.YthndhipjfdgdfaaGreatDoor
