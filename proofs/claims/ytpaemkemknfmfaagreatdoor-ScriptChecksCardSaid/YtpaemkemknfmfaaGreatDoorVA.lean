import Derived.Test.YtpaemkemknfmfaaGreatDoorWB
import Derived.Test.YtpaemkemknfmfaaGreatDoorOwnN
set_option linter.unusedVariables false
set_option linter.unusedSimpArgs false
namespace Go.Proofs.YtpaemkemknfmfaaGreatDoor
open Go.PK
/-! ### The reference reads a number -/
theorem wrapV_u8 {n : Int} (h1 : 0 ≤ n) (h2 : n ≤ 255) : Value.int .u8 (IntKind.u8.wrap n) = .int .u8 n := by
  congr 1; simp [IntKind.wrap, IntKind.bits, IntKind.signed]; omega
theorem wrapU64V {n : Int} (h1 : 0 ≤ n) (h2 : n ≤ 18446744073709551615) : Value.int .u64 (IntKind.u64.wrap n) = .int .u64 n := by
  congr 1; simp [IntKind.wrap, IntKind.bits, IntKind.signed]; omega
def rdD : Tx → Nat → Option Nat
  | [], n => some n
  | c :: r, n => if c.toNat < 48 ∨ 57 < c.toNat then none else rdD r (10 * n + (c.toNat - 48))
theorem rdD_cons (c : B8) (r : Tx) (n : Nat) : rdD (c :: r) n = if c.toNat < 48 ∨ 57 < c.toNat then none else rdD r (10 * n + (c.toNat - 48)) := rfl
theorem rdNu_cons (c : B8) (r : Tx) (n : Nat) : rdNu (c :: r) n = if c.toNat < 48 ∨ 57 < c.toNat then none else if (18446744073709551615 - (c.toNat - 48)) / 10 < n then none else rdNu r (10 * n + (c.toNat - 48)) := rfl
theorem rdD_lt : ∀ (s : Tx) (n k r : Nat), n < 10 ^ k → rdD s n = some r → r < 10 ^ (k + s.length)
  | [], n, k, r, h, e => by rw [← Option.some.inj e]; exact h
  | c :: s, n, k, r, h, e => by
    rw [rdD_cons] at e
    split at e
    · cases e
    · have := rdD_lt s _ (k + 1) r (by rw [Nat.pow_succ]; omega) e
      rw [List.length_cons, show k + (s.length + 1) = k + 1 + s.length by omega]; exact this
theorem rdD_ge : ∀ (s : Tx) (n r : Nat), rdD s n = some r → n ≤ r
  | [], n, r, e => by rw [← Option.some.inj e]; exact Nat.le_refl _
  | c :: s, n, r, e => by
    rw [rdD_cons] at e
    split at e
    · cases e
    · have := rdD_ge s _ r e; omega
theorem rdN_rdD : ∀ (s : Tx) (n : Nat), rdNu s n = match rdD s n with
    | some r => if r < 18446744073709551616 then some r else if s = [] then some r else none
    | none => none
  | [], n => by
    show some n = if n < 18446744073709551616 then some n else if ([] : Tx) = [] then some n else none
    split <;> rfl
  | c :: s, n => by
    rw [rdNu_cons, rdD_cons]
    by_cases h1 : c.toNat < 48 ∨ 57 < c.toNat
    · rw [if_pos h1, if_pos h1]
    · rw [if_neg h1, if_neg h1, rdN_rdD s]
      cases hr : rdD s (10 * n + (c.toNat - 48)) with
      | none => split <;> rfl
      | some r =>
        have hge := rdD_ge s _ r hr
        show (if _ then none else if r < 18446744073709551616 then some r else if s = [] then some r else none) = if r < 18446744073709551616 then some r else if c :: s = [] then some r else none
        rw [if_neg (show ¬ c :: s = [] by simp)]
        by_cases h2 : (18446744073709551615 - (c.toNat - 48)) / 10 < n
        · rw [if_pos h2, if_neg (by omega)]
        · rw [if_neg h2]
          by_cases h3 : r < 18446744073709551616
          · rw [if_pos h3, if_pos h3]
          · rw [if_neg h3, if_neg h3]
            rw [if_neg]
            intro hs
            subst hs
            have := Option.some.inj hr
            omega
/-- A number of at most 19 digits. -/
def rnT (s : Tx) : Option Nat := if s = [] ∨ 19 < s.length ∨ (1 < s.length ∧ s.head? = some 48#8) then none else rdD s 0
theorem rnT_lt {s : Tx} {n : Nat} (h : rnT s = some n) : n < 10000000000000000000 := by
  unfold rnT at h
  split at h
  · cases h
  · next hc =>
    have := rdD_lt s 0 0 n (by decide) h
    have hl : s.length ≤ 19 := by
      rcases Nat.lt_or_ge 19 s.length with q | q
      · exact absurd (.inr (.inl q)) hc
      · exact q
    have h2 : (10 : Nat) ^ (0 + s.length) ≤ 10 ^ 19 := Nat.pow_le_pow_right (by decide) (by omega)
    have h3 : (10 : Nat) ^ 19 = 10000000000000000000 := by decide
    omega
theorem rnT_bare {s : Tx} {n : Nat} (h : rnT s = some n) : bareT s = some n := by
  have hlt := rnT_lt h
  unfold rnT at h
  split at h
  · cases h
  · next hc =>
    rw [bareT, if_neg (by
      rintro (q | q | q)
      · exact hc (.inl q)
      · exact hc (.inr (.inl (by omega)))
      · exact hc (.inr (.inr q))), rdN_rdD, h]
    show (if n < 18446744073709551616 then some n else _) = some n
    rw [if_pos (by omega)]
theorem bare_rnT {s : Tx} {n : Nat} (h : bareT s = some n) (hn : n < 10000000000000000000) : rnT s = some n := by
  obtain ⟨hd, -⟩ := decT_bareT h
  have hl : s.length ≤ 19 := by
    rw [← hd]; exact decT_len n 18 (by
      have h3 : (10 : Nat) ^ (18 + 1) = 10000000000000000000 := by decide
      omega) (by decide)
  unfold bareT at h
  split at h
  · cases h
  · next hc =>
    rw [rnT, if_neg (by
      rintro (q | q | q)
      · exact hc (.inl q)
      · omega
      · exact hc (.inr (.inr q)))]
    rw [rdN_rdD] at h
    cases hr : rdD s 0 with
    | none => rw [hr] at h; cases h
    | some r =>
      rw [hr] at h
      have h : (if r < 18446744073709551616 then some r else if s = [] then some r else none) = some n := h
      split at h
      · exact h
      · split at h
        · exact h
        · cases h
def rnB (m : Nat) (s : Tx) : Bool := match rnT s with
  | some n => decide (n ≤ m)
  | none => false
theorem rnB_eq {m : Nat} (hm : m ≤ 9223372036854775808) (s : Tx) : rnB m s = uOk m s := by
  unfold rnB uOk
  cases h : rnT s with
  | some n => rw [rnT_bare h]
  | none =>
    cases hb : bareT s with
    | none => rfl
    | some n =>
      by_cases hn : n < 10000000000000000000
      · rw [bare_rnT hb hn] at h; cases h
      · show false = decide (n ≤ m)
        rw [decide_eq_false (by omega)]
abbrev rnP (m : Nat) (s : Tx) : Value := .tuple #[.int .u64 (((rnT s).getD 0 : Nat) : Int), .bool (rnB m s)]
theorem rnumber_any (s : Tx) (m : Nat) : Spc Tryz.prog 27 #[strV s, .int .u64 (m : Int)] [] [] (Is (rnP m s)) := by
  have bad : rnT s = none → rnP m s = .tuple #[.int .u64 0, .bool false] := fun h => by
    show Value.tuple #[.int .u64 (((rnT s).getD 0 : Nat) : Int), .bool (rnB m s)] = _
    rw [rnB, h]; rfl
  refine Spc.enter Tryz.func27 rfl rfl rfl (fun w0 hw0 => ?_)
  refine CW.seq (CW.rg (RL.p rfl (RL.p rfl (RL.nil (NQ.seq (CW.seq (CW.seq (CW.rg (RL.p rfl (RL.cmp rfl rfl rfl rfl rfl (fun w => eql_txt s [] w) ?_))))))))))
  refine RL.p rfl ?_
  refine RL.part (d := 10) rfl (fun h0 => ?_) (fun h0 => ?_)
  · have h0' : s = [] := by simpa using h0
    refine RL.p rfl (RL.p rfl (RL.p rfl (RL.p rfl (RL.p rfl (RL.p rfl (RL.p rfl (RL.p rfl (RL.p rfl (RL.p rfl (RL.p rfl (RL.p rfl (RL.p rfl (RL.p rfl ?_)))))))))))))
    refine RL.nil (NQ.seq (CW.ok [0, 1, 4, 5, 24] rfl (CW.condT rfl rfl (CW.seq (CW.rg (RL.p rfl (RL.p rfl (RL.nil (NQ.seq (CW.ret (RQ.seq ?_)))))))))))
    exact RQ.post (res2 rfl rfl rfl) (Split.none _) ⟨by rw [bad (by rw [rnT, if_pos (.inl h0')])], rfl, rfl⟩
  · have h0' : s ≠ [] := by simpa using h0
    refine RL.p rfl (RL.lenTxt Tryz.runUnderlying9 rfl rfl rfl rfl (RL.p rfl (RL.p rfl (RL.p rfl ?_))))
    refine RL.part (d := 15) rfl (fun h1 => ?_) (fun h1 => ?_)
    · have h1' : 19 < s.length := by simp at h1; omega
      refine RL.p rfl (RL.p rfl (RL.p rfl (RL.p rfl (RL.p rfl (RL.p rfl (RL.p rfl (RL.p rfl (RL.p rfl (RL.nil (NQ.seq (CW.ok [0, 1, 4, 5, 24] rfl (CW.condT rfl rfl (CW.seq ?_)))))))))))))
      refine CW.rg (RL.p rfl (RL.p rfl (RL.nil (NQ.seq (CW.ret (RQ.seq ?_))))))
      exact RQ.post (res2 rfl rfl rfl) (Split.none _) ⟨by rw [bad (by rw [rnT, if_pos (.inr (.inl h1'))])], rfl, rfl⟩
    · have h1' : s.length ≤ 19 := by simp at h1; omega
      obtain ⟨c0, hc0⟩ : ∃ c, s[0]? = some c := ⟨_, List.getElem?_eq_getElem (List.length_pos_iff.2 h0')⟩
      have hhd : s.head? = some c0 := by rw [← hc0]; cases s <;> rfl
      refine RL.p rfl (RL.lenTxt Tryz.runUnderlying9 rfl rfl rfl rfl (RL.p rfl (RL.p rfl ?_)))
      apply RL.andB (d := 19) (dp := 23) (l' := (Sq.of [16])) rfl (sK [0, 1, 4, 5, 15] rfl)
      ·
        intro hb12 K12
        refine RL.p rfl (RL.idxTxt (j := 0) Tryz.runUnderlying9 rfl rfl rfl rfl rfl rfl hc0 (RL.p rfl (RL.p rfl ?_)))
        exact K12 _ (.cons rfl (sK [0, 1, 4, 5, 15] rfl))
      ·
        intro hb12 K12
        refine RL.p rfl (RL.p rfl (RL.p rfl (RL.p rfl ?_)))
        exact K12 _ (.cons rfl (sK [0, 1, 4, 5, 15] rfl))
      refine RL.p rfl (RL.nil (NQ.seq ?_))
      refine CW.cond rfl (fun h3 => ?_) (fun h3 => ?_)
      · have h3' : 1 < s.length ∧ s.head? = some 48#8 := by
          rw [hhd]
          simp [U8] at h3
          exact ⟨by omega, by congr 1; exact BitVec.eq_of_toNat_eq (by show c0.toNat = 48; omega)⟩
        refine CW.seq (CW.rg (RL.p rfl (RL.p rfl (RL.nil (NQ.seq (CW.ret (RQ.seq ?_)))))))
        exact RQ.post (res2 rfl rfl rfl) (Split.none _) ⟨by rw [bad (by rw [rnT, if_pos (.inr (.inr h3'))])], rfl, rfl⟩
      · have h3' : ¬ (1 < s.length ∧ s.head? = some 48#8) := by
          rintro ⟨q1, q2⟩
          rw [hhd] at q2
          have q2 := Option.some.inj q2
          subst q2
          simp at h3
          omega
        have hb : rnT s = rdD s 0 := by
          rw [rnT, if_neg]
          rintro (q | q | q)
          · exact h0' q
          · omega
          · exact h3' q
        clear h3 h3' h0 h1 hhd hc0
        refine CW.skip (NQ.seq (CW.seq (CW.rg (RL.p rfl (RL.nil (NQ.seq (CW.seq (CW.seq (CW.rg (RL.p rfl (RL.nil (NQ.seq (CW.block ?_)))))))))))))
        refine CW.loop (γ := Nat × Nat) (fun g => (g.1 ≤ s.length ∧ g.2 < 10 ^ g.1) ∧ rdD (s.drop g.1) g.2 = rdD s 0) (fun g => [(0, strV s), (1, .int .u64 (m : Int)), (6, .int .u64 (g.2 : Int)), (7, .int .i64 (g.1 : Int))]) (fun _ => []) (fun _ => []) (fun g => s.length - g.1) (0, 0) ⟨⟨Nat.zero_le _, by decide⟩, rfl⟩ (.cons rfl (.cons rfl (.cons rfl (.cons rfl .nil)))) (fun w h => h) ?_
        rintro ⟨i, n⟩ ⟨⟨hi, hn⟩, hr⟩
        dsimp only at hi hn hr ⊢
        refine CW.seq (CW.seq (CW.rg (RL.p rfl (RL.p rfl (RL.lenTxt Tryz.runUnderlying9 rfl rfl rfl rfl (RL.p rfl (RL.nil (NQ.seq ?_))))))))
        refine CW.cond rfl (fun hlt => ?_) (fun hlt => ?_)
        · have hlt : i < s.length := by simp at hlt; omega
          have hx := List.getElem?_eq_getElem hlt
          have hdr : s.drop i = s[i] :: s.drop (i + 1) := List.drop_eq_getElem_cons hlt
          generalize s[i] = c at hx hdr
          rw [hdr, rdD_cons] at hr
          refine CW.skip (NQ.seq (CW.seq (CW.block (CW.seq (CW.seq (CW.rg (RL.p rfl (RL.p rfl (RL.idxTxt (j := i) Tryz.runUnderlying9 rfl rfl rfl rfl rfl rfl hx (RL.p rfl (RL.p rfl ?_)))))))))))
          apply RL.orB (d := 35) (dp := 40) (l' := (Sq.of [])) rfl (sK [0, 1, 6, 7] rfl)
          ·
            intro hb5 K5
            refine RL.p rfl (RL.p rfl (RL.idxTxt (j := i) Tryz.runUnderlying9 rfl rfl rfl rfl rfl rfl hx (RL.p rfl (RL.p rfl ?_))))
            exact K5 _ (.cons rfl (sK [0, 1, 6, 7] rfl))
          ·
            intro hb5 K5
            refine RL.p rfl (RL.p rfl (RL.p rfl (RL.p rfl (RL.p rfl ?_))))
            exact K5 _ (.cons rfl (sK [0, 1, 6, 7] rfl))
          refine RL.nil (NQ.seq ?_)
          refine CW.cond rfl (fun hd => ?_) (fun hd => ?_)
          · have hd' : c.toNat < 48 ∨ 57 < c.toNat := by simp at hd; omega
            rw [if_pos hd'] at hr
            refine CW.seq (CW.rg (RL.p rfl (RL.p rfl (RL.nil (NQ.seq (CW.ret (RQ.seq (RQ.block (RQ.seq (RQ.seq (RQ.block (RQ.seq ?_))))))))))))
            exact RQ.post (res2 rfl rfl rfl) (Split.none _) ⟨by rw [bad (by rw [hb, ← hr])], rfl, rfl⟩
          · have hd' : ¬ (c.toNat < 48 ∨ 57 < c.toNat) := by simp at hd; omega
            rw [if_neg hd'] at hr
            have hd1 : 48 ≤ c.toNat := by omega
            have hd2 : c.toNat ≤ 57 := by omega
            have hsub : (c.toNat : Int) - 48 = ((c.toNat - 48 : Nat) : Int) := by omega
            generalize hdd : c.toNat - 48 = d at hr hsub
            have hd9 : d ≤ 9 := by omega
            have hp : 10 ^ i ≤ 10 ^ 18 := Nat.pow_le_pow_right (by decide) (by omega)
            have hp2 : (10 : Nat) ^ 18 = 1000000000000000000 := by decide
            have hn2 : n < 1000000000000000000 := by omega
            have hn3 : 10 * n + d < 10 ^ (i + 1) := by rw [Nat.pow_succ]; omega
            refine CW.skip (NQ.seq (CW.rg (RL.p rfl (RL.bx rfl (wrapV_u64 (by omega) (by omega)) ?_))))
            refine RL.p rfl (RL.p rfl (RL.idxTxt (j := i) Tryz.runUnderlying9 rfl rfl rfl rfl rfl rfl hx (RL.bx rfl (wrapV_u8 (by omega) (by omega)) ?_)))
            refine RL.conv Tryz.runUnderlying5 Tryz.runUnderlying39 rfl rfl rfl rfl (RL.cast (d := 47) (v' := .int .u64 (d : Int)) rfl (by rw [hsub, wrapU64V (by omega) (by omega)]) ?_)
            refine RL.bx rfl (wrapV_u64 (by omega) (by omega)) ?_
            refine RL.p rfl (RL.nil (NQ.block (NQ.seq (CW.ok [0, 1, 6, 7] rfl (CW.rg (RL.p rfl (RL.bx rfl (wrapV_i64 (by omega) (by omega)) ?_)))))))
            refine RL.p rfl (RL.nil ?_)
            exact NQ.round (g := (i, n)) (i + 1, 10 * n + d) ⟨⟨hlt, hn3⟩, hr⟩ (by show s.length - (i + 1) < s.length - i; omega) (.cons rfl (.cons rfl (.cons (k := 6) (by show some (Value.int .u64 (10 * (n : Int) + (d : Int))) = some (Value.int .u64 ((10 * n + d : Nat) : Int)); congr 2) (.cons rfl .nil)))) (fun w h => h)
        · have hin : i = s.length := by simp at hlt; omega
          subst hin
          rw [List.drop_length] at hr
          have hr : rdD s 0 = some n := hr.symm
          refine CW.exit (XQ.seq (XQ.seq (XQ.hit (NQ.seq (CW.ok [1, 6] rfl (CW.seq (CW.rg (RL.p rfl (RL.p rfl (RL.p rfl (RL.p rfl (RL.p rfl (RL.p rfl ?_)))))))))))))
          refine RL.nil (NQ.seq (CW.ok [4, 5] rfl (CW.ret ?_)))
          refine RQ.post (res2 rfl rfl rfl) (Split.none _) ⟨?_, rfl, rfl⟩
          show _ = Value.tuple #[.int .u64 (((rnT s).getD 0 : Nat) : Int), .bool (rnB m s)]
          rw [rnB, hb, hr]
          show Value.tuple #[.int .u64 (n : Int), .bool (decide ((n : Int) ≤ (m : Int)))] = .tuple #[.int .u64 (n : Int), .bool (decide (n ≤ m))]
          congr 4
          simp
/-! ### A number with a sign -/
def sgV (ok : Bool) : Tx → Int
  | [] => IntKind.i64.wrap (((rnT []).getD 0 : Nat) : Int)
  | c :: r => if c = 45#8 ∧ r ≠ [] then (if ok = true then 1 - (((rnT r).getD 0 : Nat) : Int) - 1 else 0) else IntKind.i64.wrap (((rnT (c :: r)).getD 0 : Nat) : Int)
abbrev sgP (ok : Bool) (s : Tx) : Value := .tuple #[.int .i64 (sgV ok s), .bool ok]
theorem bareC {r : Tx} : (∃ n, rnT r = some n ∧ bareT r = some n ∧ n < 10000000000000000000) ∨ (rnT r = none ∧ ∀ n, bareT r = some n → 10000000000000000000 ≤ n) := by
  cases h : rnT r with
  | some n => exact .inl ⟨n, rfl, rnT_bare h, rnT_lt h⟩
  | none => exact .inr ⟨rfl, fun n hb => by
      rcases Nat.lt_or_ge n 10000000000000000000 with q | q
      · rw [bare_rnT hb q] at h; cases h
      · exact q⟩
theorem numT_neg {r : Tx} (h : r ≠ []) : numT (45#8 :: r) = match bareT r with
    | some n => if n = 0 ∨ 9223372036854775808 < n then none else some (-(n : Int))
    | none => none := by rw [numT, if_pos ⟨rfl, h⟩]; rfl
theorem numT_pos {c : B8} {r : Tx} (h : ¬ (c = 45#8 ∧ r ≠ [])) : numT (c :: r) = match bareT (c :: r) with
    | some n => if 9223372036854775807 < n then none else some (n : Int)
    | none => none := by rw [numT, if_neg h]; rfl
theorem sOk_neg {r : Tx} (h : r ≠ []) : (rnB 9223372036854775808 r && !((((rnT r).getD 0 : Nat) : Int) == 0)) = sOk (45#8 :: r) := by
  rw [sOk, numT_neg h, rnB]
  rcases bareC (r := r) with ⟨n, h1, h2, h3⟩ | ⟨h1, h2⟩
  · rw [h1, h2]
    show (decide (n ≤ 9223372036854775808) && !((n : Int) == 0)) = (if n = 0 ∨ 9223372036854775808 < n then none else some (-(n : Int))).isSome
    by_cases q : n = 0 ∨ 9223372036854775808 < n
    · rw [if_pos q]
      rcases q with q | q
      · subst q; rfl
      · rw [decide_eq_false (by omega)]; rfl
    · rw [if_neg q, decide_eq_true (by omega)]
      have : ((n : Int) == 0) = false := by rw [beq_eq_false_iff_ne]; omega
      rw [this]; rfl
  · rw [h1]
    cases hb : bareT r with
    | none => rfl
    | some n =>
      have := h2 n hb
      show false = (if n = 0 ∨ 9223372036854775808 < n then none else some (-(n : Int))).isSome
      rw [if_pos (.inr (by omega))]; rfl
theorem iOk_neg {r : Tx} (h : r ≠ []) : (rnB 2147483648 r && !((((rnT r).getD 0 : Nat) : Int) == 0)) = iOk (45#8 :: r) := by
  rw [iOk, numT_neg h, rnB]
  rcases bareC (r := r) with ⟨n, h1, h2, h3⟩ | ⟨h1, h2⟩
  · rw [h1, h2]
    show (decide (n ≤ 2147483648) && !((n : Int) == 0)) = match (if n = 0 ∨ 9223372036854775808 < n then none else some (-(n : Int))) with
      | some v => decide (-2147483648 ≤ v ∧ v ≤ 2147483647)
      | none => false
    by_cases q : n = 0 ∨ 9223372036854775808 < n
    · rw [if_pos q]
      rcases q with q | q
      · subst q; rfl
      · rw [decide_eq_false (by omega)]; rfl
    · rw [if_neg q]
      have : ((n : Int) == 0) = false := by rw [beq_eq_false_iff_ne]; omega
      rw [this, Bool.not_false, Bool.and_true]
      show decide (n ≤ 2147483648) = decide (-2147483648 ≤ -(n : Int) ∧ -(n : Int) ≤ 2147483647)
      rw [Bool.eq_iff_iff, decide_eq_true_eq, decide_eq_true_eq]; omega
  · rw [h1]
    cases hb : bareT r with
    | none => rfl
    | some n =>
      have := h2 n hb
      show false = match (if n = 0 ∨ 9223372036854775808 < n then none else some (-(n : Int))) with
        | some v => decide (-2147483648 ≤ v ∧ v ≤ 2147483647)
        | none => false
      rw [if_pos (.inr (by omega))]
theorem sOk_pos {c : B8} {r : Tx} (h : ¬ (c = 45#8 ∧ r ≠ [])) : rnB 9223372036854775807 (c :: r) = sOk (c :: r) := by
  rw [sOk, numT_pos h, rnB]
  rcases bareC (r := c :: r) with ⟨n, h1, h2, h3⟩ | ⟨h1, h2⟩
  · rw [h1, h2]
    show decide (n ≤ 9223372036854775807) = (if 9223372036854775807 < n then none else some (n : Int)).isSome
    by_cases q : 9223372036854775807 < n
    · rw [if_pos q, decide_eq_false (by omega)]; rfl
    · rw [if_neg q, decide_eq_true (by omega)]; rfl
  · rw [h1]
    cases hb : bareT (c :: r) with
    | none => rfl
    | some n =>
      have := h2 n hb
      show false = (if 9223372036854775807 < n then none else some (n : Int)).isSome
      rw [if_pos (by omega)]; rfl
theorem iOk_pos {c : B8} {r : Tx} (h : ¬ (c = 45#8 ∧ r ≠ [])) : rnB 2147483647 (c :: r) = iOk (c :: r) := by
  rw [iOk, numT_pos h, rnB]
  rcases bareC (r := c :: r) with ⟨n, h1, h2, h3⟩ | ⟨h1, h2⟩
  · rw [h1, h2]
    show decide (n ≤ 2147483647) = match (if 9223372036854775807 < n then none else some (n : Int)) with
      | some v => decide (-2147483648 ≤ v ∧ v ≤ 2147483647)
      | none => false
    by_cases q : 9223372036854775807 < n
    · rw [if_pos q, decide_eq_false (by omega)]
    · rw [if_neg q]
      show decide (n ≤ 2147483647) = decide (-2147483648 ≤ (n : Int) ∧ (n : Int) ≤ 2147483647)
      rw [Bool.eq_iff_iff, decide_eq_true_eq, decide_eq_true_eq]; omega
  · rw [h1]
    cases hb : bareT (c :: r) with
    | none => rfl
    | some n =>
      have := h2 n hb
      show false = match (if 9223372036854775807 < n then none else some (n : Int)) with
        | some v => decide (-2147483648 ≤ v ∧ v ≤ 2147483647)
        | none => false
      rw [if_pos (by omega)]
theorem rsigned_any (s : Tx) : Spc Tryz.prog 39 #[strV s, .int .i64 64] [] [] (Is (sgP (sOk s) s)) := by
  cases s with
  | nil =>
    have hc0 : ([] : Tx)[0]? = some 0#8 ∨ True := .inr trivial
    refine Spc.enter Tryz.func39 rfl rfl rfl (fun w0 hw0 => ?_)
    refine CW.seq (CW.rg (RL.p rfl (RL.p rfl (RL.nil (NQ.seq (CW.seq (CW.rg (RL.p rfl (RL.nil (NQ.seq (CW.seq (CW.seq (CW.rg ?_)))))))))))))
    refine RL.p rfl (RL.p rfl (RL.nil (NQ.seq (CW.condF rfl (rfl) (CW.skip (NQ.seq (CW.seq (CW.seq (CW.rg (RL.p rfl (RL.lenTxt Tryz.runUnderlying9 rfl rfl rfl rfl (RL.p rfl (RL.p rfl ?_)))))))))))))
    refine RL.cast (d := 16) (v' := .bool false) rfl (rfl) ?_
    refine RL.p rfl (RL.p rfl (RL.p rfl (RL.p rfl (RL.nil (NQ.seq (CW.ok [0, 4, 5, 6, 20] rfl (CW.condF rfl rfl (CW.skip (NQ.seq (CW.seq (CW.rg (RL.p rfl (RL.p rfl ?_)))))))))))))
    refine RL.callvq (rnumber_any [] 9223372036854775807) Tryz.call27 rfl rfl rfl rfl ?_
    refine RL.p rfl (RL.p rfl (RL.p rfl (RL.p rfl (RL.p rfl (RL.nil (NQ.seq (CW.ok [9, 10] rfl (CW.seq (CW.rg (RL.p rfl (RL.conv Tryz.runUnderlying39 Tryz.runUnderlying2 rfl rfl rfl rfl (RL.p rfl (RL.p rfl ?_)))))))))))))
    refine RL.p rfl (RL.nil (NQ.seq (CW.ret ?_)))
    exact RQ.post (res2 rfl rfl rfl) (Split.none _) ⟨rfl, rfl, rfl⟩
  | cons c r =>
    have hc0 : (c :: r)[0]? = some c := rfl
    refine Spc.enter Tryz.func39 rfl rfl rfl (fun w0 hw0 => ?_)
    refine CW.seq (CW.rg (RL.p rfl (RL.p rfl (RL.nil (NQ.seq (CW.seq (CW.rg (RL.p rfl (RL.nil (NQ.seq (CW.seq (CW.seq (CW.rg ?_)))))))))))))
    refine RL.p rfl (RL.p rfl (RL.nil (NQ.seq (CW.condF rfl (rfl) (CW.skip (NQ.seq (CW.seq (CW.seq (CW.rg (RL.p rfl (RL.lenTxt Tryz.runUnderlying9 rfl rfl rfl rfl (RL.p rfl (RL.p rfl ?_)))))))))))))
    apply RL.andB (d := 16) (dp := 20) (l' := (Sq.of [])) rfl (sK [0, 4, 5, 6] rfl)
    ·
      intro hb4 K4
      refine RL.p rfl (RL.idxTxt (j := 0) Tryz.runUnderlying9 rfl rfl rfl rfl rfl rfl hc0 (RL.p rfl (RL.p rfl ?_)))
      exact K4 _ (.cons rfl (sK [0, 4, 5, 6] rfl))
    ·
      intro hb4 K4
      refine RL.p rfl (RL.p rfl (RL.p rfl (RL.p rfl ?_)))
      exact K4 _ (.cons rfl (sK [0, 4, 5, 6] rfl))
    refine RL.nil (NQ.seq ?_)
    refine CW.cond rfl (fun h0 => ?_) (fun h0 => ?_)
    · have h0' : c = 45#8 ∧ r ≠ [] := by
        simp [U8] at h0
        refine ⟨BitVec.eq_of_toNat_eq (by show c.toNat = 45; omega), fun e => ?_⟩
        subst e
        simp at h0
      obtain ⟨rfl, hr⟩ := h0'
      have hlen : 1 < (45#8 :: r).length := by have := List.length_pos_iff.2 hr; rw [List.length_cons]; omega
      have hdr : ((45#8 :: r).drop 1).take ((45#8 :: r).length - 1) = r := by rw [List.drop_one, List.tail_cons, List.length_cons, Nat.add_sub_cancel, List.take_length]
      have hfin := sOk_neg hr
      refine CW.seq (CW.rg (RL.p rfl (RL.sliceTxt (s := 45#8 :: r) (lo := 1) (hi := (45#8 :: r).length) Tryz.runUnderlying9 rfl rfl rfl rfl rfl rfl (by omega) (Nat.le_refl _) ?_)))
      rw [hdr]
      refine RL.p rfl (RL.bx rfl (wrapV_u64 (by omega) (by omega)) ?_)
      refine RL.callvq (rnumber_any r 9223372036854775808) Tryz.call27 rfl rfl rfl rfl ?_
      refine RL.p rfl (RL.p rfl (RL.p rfl (RL.p rfl (RL.p rfl (RL.nil (NQ.seq (CW.ok [0, 6, 7, 8] rfl (CW.seq (CW.seq (CW.rg (RL.p rfl (RL.p rfl (RL.p rfl ?_)))))))))))))
      apply RL.orB (d := 31) (dp := 34) (l' := (Sq.of [])) rfl (sK [0, 6, 7] rfl)
      ·
        intro hb3 K3
        refine RL.p rfl (RL.p rfl (RL.p rfl ?_))
        exact K3 _ (.cons rfl (sK [0, 6, 7] rfl))
      ·
        intro hb3 K3
        refine RL.p rfl (RL.p rfl (RL.p rfl ?_))
        exact K3 _ (.cons rfl (sK [0, 6, 7] rfl))
      refine RL.nil (NQ.seq ?_)
      refine CW.cond rfl (fun hq => ?_) (fun hq => ?_)
      · have hz : (sOk (45#8 :: r)) = false := by
          rw [← hfin]
          revert hq
          cases rnB 9223372036854775808 r <;> simp
        refine CW.seq (CW.rg (RL.p rfl (RL.p rfl (RL.nil (NQ.seq (CW.ret (RQ.seq (RQ.seq ?_))))))))
        exact RQ.post (res2 rfl rfl rfl) (Split.none _) ⟨by rw [sgP, hz, sgV, if_pos ⟨rfl, hr⟩]; rfl, rfl, rfl⟩
      · have hz : (sOk (45#8 :: r)) = true := by
          rw [← hfin]
          revert hq
          cases rnB 9223372036854775808 r <;> simp
        have hn : 1 ≤ (rnT r).getD 0 ∧ (rnT r).getD 0 ≤ 9223372036854775808 := by
          revert hq
          rw [rnB]
          cases rnT r with
          | none => intro h; cases h
          | some k =>
            show (!decide (k ≤ 9223372036854775808) || ((k : Int) == 0)) = false → 1 ≤ k ∧ k ≤ 9223372036854775808
            intro h
            rw [Bool.or_eq_false_iff, Bool.not_eq_false', decide_eq_true_eq, beq_eq_false_iff_ne] at h
            omega
        have hsv : sgV (sOk (45#8 :: r)) (45#8 :: r) = 1 - (((rnT r).getD 0 : Nat) : Int) - 1 := by rw [hz, sgV, if_pos ⟨rfl, hr⟩, if_pos rfl]
        generalize (rnT r).getD 0 = n at hn hsv
        refine CW.skip (NQ.seq (CW.seq (CW.rg (RL.p rfl (RL.bx rfl (wrapV_u64 (by omega) (by omega)) ?_)))))
        refine RL.conv Tryz.runUnderlying39 Tryz.runUnderlying2 rfl rfl rfl rfl (RL.cast (d := 37) (v' := .int .i64 ((n : Int) - 1)) rfl (by rw [wrapV_i64 (by omega) (by omega)]) ?_)
        refine RL.neg rfl rfl rfl rfl (RL.cast (d := 38) (v' := .int .i64 (1 - (n : Int))) rfl (by rw [show (0 : Int) - ((n : Int) - 1) = 1 - (n : Int) by omega, wrapV_i64 (by omega) (by omega)]) ?_)
        refine RL.bx rfl (wrapV_i64 (by omega) (by omega)) ?_
        refine RL.p rfl (RL.p rfl (RL.nil (NQ.seq (CW.ok [0, 4, 5, 6] rfl (CW.ret (RQ.seq ?_))))))
        exact RQ.post (res2 rfl rfl rfl) (Split.none _) ⟨by rw [sgP, hsv, hz], rfl, rfl⟩
    · have h0' : ¬ (c = 45#8 ∧ r ≠ []) := by
        rintro ⟨rfl, q⟩
        have := List.length_pos_iff.2 q
        simp at h0
        omega
      have hfin := sOk_pos h0'
      refine CW.skip (NQ.seq (CW.seq (CW.rg (RL.p rfl (RL.p rfl (RL.callvq (rnumber_any (c :: r) 9223372036854775807) Tryz.call27 rfl rfl rfl rfl ?_))))))
      refine RL.p rfl (RL.p rfl (RL.p rfl (RL.p rfl (RL.p rfl (RL.nil (NQ.seq (CW.ok [9, 10] rfl (CW.seq (CW.rg (RL.p rfl (RL.conv Tryz.runUnderlying39 Tryz.runUnderlying2 rfl rfl rfl rfl (RL.p rfl (RL.p rfl ?_)))))))))))))
      refine RL.p rfl (RL.nil (NQ.seq (CW.ret ?_)))
      exact RQ.post (res2 rfl rfl rfl) (Split.none _) ⟨by rw [sgP, sgV, if_neg h0', ← hfin]; rfl, rfl, rfl⟩
theorem rsigned32_any (s : Tx) : Spc Tryz.prog 39 #[strV s, .int .i64 32] [] [] (Is (sgP (iOk s) s)) := by
  cases s with
  | nil =>
    have hc0 : ([] : Tx)[0]? = some 0#8 ∨ True := .inr trivial
    refine Spc.enter Tryz.func39 rfl rfl rfl (fun w0 hw0 => ?_)
    refine CW.seq (CW.rg (RL.p rfl (RL.p rfl (RL.nil (NQ.seq (CW.seq (CW.rg (RL.p rfl (RL.nil (NQ.seq (CW.seq (CW.seq (CW.rg ?_)))))))))))))
    refine RL.p rfl (RL.p rfl (RL.nil (NQ.seq (CW.condT rfl (rfl) (CW.rg (RL.p rfl (RL.nil (NQ.seq (CW.seq (CW.seq (CW.rg (RL.p rfl (RL.lenTxt Tryz.runUnderlying9 rfl rfl rfl rfl ?_)))))))))))))
    refine RL.p rfl (RL.p rfl (RL.cast (d := 16) (v' := .bool false) rfl (rfl) ?_))
    refine RL.p rfl (RL.p rfl (RL.p rfl (RL.p rfl (RL.nil (NQ.seq (CW.ok [0, 4, 5, 6, 20] rfl (CW.condF rfl rfl (CW.skip (NQ.seq (CW.seq (CW.rg (RL.p rfl (RL.p rfl ?_)))))))))))))
    refine RL.callvq (rnumber_any [] 2147483647) Tryz.call27 rfl rfl rfl rfl ?_
    refine RL.p rfl (RL.p rfl (RL.p rfl (RL.p rfl (RL.p rfl (RL.nil (NQ.seq (CW.ok [9, 10] rfl (CW.seq (CW.rg (RL.p rfl (RL.conv Tryz.runUnderlying39 Tryz.runUnderlying2 rfl rfl rfl rfl (RL.p rfl (RL.p rfl ?_)))))))))))))
    refine RL.p rfl (RL.nil (NQ.seq (CW.ret ?_)))
    exact RQ.post (res2 rfl rfl rfl) (Split.none _) ⟨rfl, rfl, rfl⟩
  | cons c r =>
    have hc0 : (c :: r)[0]? = some c := rfl
    refine Spc.enter Tryz.func39 rfl rfl rfl (fun w0 hw0 => ?_)
    refine CW.seq (CW.rg (RL.p rfl (RL.p rfl (RL.nil (NQ.seq (CW.seq (CW.rg (RL.p rfl (RL.nil (NQ.seq (CW.seq (CW.seq (CW.rg ?_)))))))))))))
    refine RL.p rfl (RL.p rfl (RL.nil (NQ.seq (CW.condT rfl (rfl) (CW.rg (RL.p rfl (RL.nil (NQ.seq (CW.seq (CW.seq (CW.rg (RL.p rfl (RL.lenTxt Tryz.runUnderlying9 rfl rfl rfl rfl ?_)))))))))))))
    refine RL.p rfl (RL.p rfl ?_)
    apply RL.andB (d := 16) (dp := 20) (l' := (Sq.of [])) rfl (sK [0, 4, 5, 6] rfl)
    ·
      intro hb4 K4
      refine RL.p rfl (RL.idxTxt (j := 0) Tryz.runUnderlying9 rfl rfl rfl rfl rfl rfl hc0 (RL.p rfl (RL.p rfl ?_)))
      exact K4 _ (.cons rfl (sK [0, 4, 5, 6] rfl))
    ·
      intro hb4 K4
      refine RL.p rfl (RL.p rfl (RL.p rfl (RL.p rfl ?_)))
      exact K4 _ (.cons rfl (sK [0, 4, 5, 6] rfl))
    refine RL.nil (NQ.seq ?_)
    refine CW.cond rfl (fun h0 => ?_) (fun h0 => ?_)
    · have h0' : c = 45#8 ∧ r ≠ [] := by
        simp [U8] at h0
        refine ⟨BitVec.eq_of_toNat_eq (by show c.toNat = 45; omega), fun e => ?_⟩
        subst e
        simp at h0
      obtain ⟨rfl, hr⟩ := h0'
      have hlen : 1 < (45#8 :: r).length := by have := List.length_pos_iff.2 hr; rw [List.length_cons]; omega
      have hdr : ((45#8 :: r).drop 1).take ((45#8 :: r).length - 1) = r := by rw [List.drop_one, List.tail_cons, List.length_cons, Nat.add_sub_cancel, List.take_length]
      have hfin := iOk_neg hr
      refine CW.seq (CW.rg (RL.p rfl (RL.sliceTxt (s := 45#8 :: r) (lo := 1) (hi := (45#8 :: r).length) Tryz.runUnderlying9 rfl rfl rfl rfl rfl rfl (by omega) (Nat.le_refl _) ?_)))
      rw [hdr]
      refine RL.p rfl (RL.bx rfl (wrapV_u64 (by omega) (by omega)) ?_)
      refine RL.callvq (rnumber_any r 2147483648) Tryz.call27 rfl rfl rfl rfl ?_
      refine RL.p rfl (RL.p rfl (RL.p rfl (RL.p rfl (RL.p rfl (RL.nil (NQ.seq (CW.ok [0, 6, 7, 8] rfl (CW.seq (CW.seq (CW.rg (RL.p rfl (RL.p rfl (RL.p rfl ?_)))))))))))))
      apply RL.orB (d := 31) (dp := 34) (l' := (Sq.of [])) rfl (sK [0, 6, 7] rfl)
      ·
        intro hb3 K3
        refine RL.p rfl (RL.p rfl (RL.p rfl ?_))
        exact K3 _ (.cons rfl (sK [0, 6, 7] rfl))
      ·
        intro hb3 K3
        refine RL.p rfl (RL.p rfl (RL.p rfl ?_))
        exact K3 _ (.cons rfl (sK [0, 6, 7] rfl))
      refine RL.nil (NQ.seq ?_)
      refine CW.cond rfl (fun hq => ?_) (fun hq => ?_)
      · have hz : (iOk (45#8 :: r)) = false := by
          rw [← hfin]
          revert hq
          cases rnB 2147483648 r <;> simp
        refine CW.seq (CW.rg (RL.p rfl (RL.p rfl (RL.nil (NQ.seq (CW.ret (RQ.seq (RQ.seq ?_))))))))
        exact RQ.post (res2 rfl rfl rfl) (Split.none _) ⟨by rw [sgP, hz, sgV, if_pos ⟨rfl, hr⟩]; rfl, rfl, rfl⟩
      · have hz : (iOk (45#8 :: r)) = true := by
          rw [← hfin]
          revert hq
          cases rnB 2147483648 r <;> simp
        have hn : 1 ≤ (rnT r).getD 0 ∧ (rnT r).getD 0 ≤ 2147483648 := by
          revert hq
          rw [rnB]
          cases rnT r with
          | none => intro h; cases h
          | some k =>
            show (!decide (k ≤ 2147483648) || ((k : Int) == 0)) = false → 1 ≤ k ∧ k ≤ 2147483648
            intro h
            rw [Bool.or_eq_false_iff, Bool.not_eq_false', decide_eq_true_eq, beq_eq_false_iff_ne] at h
            omega
        have hsv : sgV (iOk (45#8 :: r)) (45#8 :: r) = 1 - (((rnT r).getD 0 : Nat) : Int) - 1 := by rw [hz, sgV, if_pos ⟨rfl, hr⟩, if_pos rfl]
        generalize (rnT r).getD 0 = n at hn hsv
        refine CW.skip (NQ.seq (CW.seq (CW.rg (RL.p rfl (RL.bx rfl (wrapV_u64 (by omega) (by omega)) ?_)))))
        refine RL.conv Tryz.runUnderlying39 Tryz.runUnderlying2 rfl rfl rfl rfl (RL.cast (d := 37) (v' := .int .i64 ((n : Int) - 1)) rfl (by rw [wrapV_i64 (by omega) (by omega)]) ?_)
        refine RL.neg rfl rfl rfl rfl (RL.cast (d := 38) (v' := .int .i64 (1 - (n : Int))) rfl (by rw [show (0 : Int) - ((n : Int) - 1) = 1 - (n : Int) by omega, wrapV_i64 (by omega) (by omega)]) ?_)
        refine RL.bx rfl (wrapV_i64 (by omega) (by omega)) ?_
        refine RL.p rfl (RL.p rfl (RL.nil (NQ.seq (CW.ok [0, 4, 5, 6] rfl (CW.ret (RQ.seq ?_))))))
        exact RQ.post (res2 rfl rfl rfl) (Split.none _) ⟨by rw [sgP, hsv, hz], rfl, rfl⟩
    · have h0' : ¬ (c = 45#8 ∧ r ≠ []) := by
        rintro ⟨rfl, q⟩
        have := List.length_pos_iff.2 q
        simp at h0
        omega
      have hfin := iOk_pos h0'
      refine CW.skip (NQ.seq (CW.seq (CW.rg (RL.p rfl (RL.p rfl (RL.callvq (rnumber_any (c :: r) 2147483647) Tryz.call27 rfl rfl rfl rfl ?_))))))
      refine RL.p rfl (RL.p rfl (RL.p rfl (RL.p rfl (RL.p rfl (RL.nil (NQ.seq (CW.ok [9, 10] rfl (CW.seq (CW.rg (RL.p rfl (RL.conv Tryz.runUnderlying39 Tryz.runUnderlying2 rfl rfl rfl rfl (RL.p rfl (RL.p rfl ?_)))))))))))))
      refine RL.p rfl (RL.nil (NQ.seq (CW.ret ?_)))
      exact RQ.post (res2 rfl rfl rfl) (Split.none _) ⟨by rw [sgP, sgV, if_neg h0', ← hfin]; rfl, rfl, rfl⟩
end Go.Proofs.YtpaemkemknfmfaaGreatDoor

namespace Go.Proofs.YtpaemkemknfmfaaGreatDoor
open Go.PK
/-! ### Words that are numbers, as the reference has them -/
theorem rup_any (s : Tx) (m : Nat) (hm : m ≤ 9223372036854775808) : Spc Tryz.prog 23 #[strV s, .int .u64 (m : Int)] [] [] (Is (.bool (uOk m s))) := by
  refine Spc.enter Tryz.func23 rfl rfl rfl (fun w0 hw0 => ?_)
  refine CW.seq (CW.rg (RL.p rfl (RL.nil (NQ.seq (CW.seq (CW.rg (RL.p rfl (RL.p rfl (RL.callvq (rnumber_any s m) Tryz.call27 rfl rfl rfl rfl ?_)))))))))
  refine RL.p rfl (RL.p rfl (RL.p rfl (RL.p rfl (RL.p rfl (RL.nil (NQ.seq (CW.ok [6] rfl (CW.seq (CW.rg (RL.p rfl (RL.p rfl (RL.nil (NQ.seq ?_)))))))))))))
  refine CW.ret ?_
  exact RQ.post (res1 rfl rfl) (Split.none _) ⟨by rw [← rnB_eq hm]; rfl, rfl, rfl⟩
theorem rbare_any (s : Tx) : Spc Tryz.prog 15 #[strV s] [] [] (Is (.int .u64 (((rnT s).getD 0 : Nat) : Int))) := by
  refine Spc.enter Tryz.func15 rfl rfl rfl (fun w0 hw0 => ?_)
  refine CW.seq (CW.rg (RL.p rfl (RL.nil (NQ.seq (CW.seq (CW.rg (RL.p rfl (RL.callvq (rnumber_any s 9223372036854775807) Tryz.call27 rfl rfl rfl rfl ?_))))))))
  refine RL.p rfl (RL.p rfl (RL.p rfl (RL.p rfl (RL.p rfl (RL.nil (NQ.seq (CW.ok [3] rfl (CW.seq (CW.rg (RL.p rfl (RL.p rfl (RL.nil (NQ.seq ?_)))))))))))))
  refine CW.ret ?_
  exact RQ.post (res1 rfl rfl) (Split.none _) ⟨rfl, rfl, rfl⟩
theorem rsmall_any (s : Tx) : Spc Tryz.prog 37 #[strV s] [] [] (Is (.int .i32 (IntKind.i32.wrap (sgV (iOk s) s)))) := by
  refine Spc.enter Tryz.func37 rfl rfl rfl (fun w0 hw0 => ?_)
  refine CW.seq (CW.rg (RL.p rfl (RL.nil (NQ.seq (CW.seq (CW.rg (RL.p rfl (RL.callvq (rsigned32_any s) Tryz.call39 rfl rfl rfl rfl ?_))))))))
  refine RL.p rfl (RL.p rfl (RL.p rfl (RL.p rfl (RL.p rfl (RL.nil (NQ.seq (CW.ok [3] rfl (CW.seq (CW.rg (RL.p rfl (RL.conv Tryz.runUnderlying2 Tryz.runUnderlying31 rfl rfl rfl rfl (RL.p rfl (RL.nil ?_)))))))))))))
  refine NQ.seq (CW.ret ?_)
  exact RQ.post (res1 rfl rfl) (Split.none _) ⟨rfl, rfl, rfl⟩
theorem rwide_any (s : Tx) : Spc Tryz.prog 38 #[strV s] [] [] (Is (.int .i64 (sgV (sOk s) s))) := by
  refine Spc.enter Tryz.func38 rfl rfl rfl (fun w0 hw0 => ?_)
  refine CW.seq (CW.rg (RL.p rfl (RL.nil (NQ.seq (CW.seq (CW.rg (RL.p rfl (RL.callvq (rsigned_any s) Tryz.call39 rfl rfl rfl rfl ?_))))))))
  refine RL.p rfl (RL.p rfl (RL.p rfl (RL.p rfl (RL.p rfl (RL.nil (NQ.seq (CW.ok [3] rfl (CW.seq (CW.rg (RL.p rfl (RL.p rfl (RL.nil (NQ.seq ?_)))))))))))))
  refine CW.ret ?_
  exact RQ.post (res1 rfl rfl) (Split.none _) ⟨rfl, rfl, rfl⟩
theorem bare_val {m : Nat} (hm : m ≤ 9223372036854775808) {s : Tx} (h : uOk m s = true) : (bareT s).getD 0 = (rnT s).getD 0 := by
  rw [← rnB_eq hm, rnB] at h
  cases hr : rnT s with
  | none => rw [hr] at h; cases h
  | some n => rw [rnT_bare hr]
/-! ### Words that are all so -/
def kP (c : B8) : Pd := if c = 115#8 then sOk else if c = 105#8 then iOk else if c = 117#8 then uOk M63 else uOk 4294967295
theorem slsRdQ {I H : List It} {b q n j : Nat} {L : List Tx} {s : Tx} (hm : sls (some ⟨b, q, none⟩) 1 n (L.map strV) ∈ I) (h : L[j]? = some s) : Rd I H ⟨b, q + j * 1, none⟩ (strV s) := by
  have h2 := Rd.getS (H := H) (j := j * 1) (v := strV s) hm (by rw [show j * 1 = j by omega, List.getElem?_map, h]; rfl)
  rwa [add_none] at h2
theorem allP_ne : ∀ (ps : List Pd) (l : List Tx), ps.length ≠ l.length → allP ps l = false
  | [], [], h => absurd rfl h
  | [], _ :: _, _ => rfl
  | _ :: _, [], _ => rfl
  | p :: ps, a :: l, h => by
    show (p a && allP ps l) = false
    rw [allP_ne ps l (by simpa using h), Bool.and_false]
theorem u8_eq {c d : B8} : (((c.toNat : Nat) : Int) == ((d.toNat : Nat) : Int)) = decide (c = d) := by
  rw [Bool.eq_iff_iff, beq_iff_eq, decide_eq_true_eq]
  exact ⟨fun h => BitVec.eq_of_toNat_eq (by omega), fun h => by rw [h]⟩
theorem rall_any (p : Option Addr) (m c : Nat) (l : List Tx) (ks : Tx) (hl : l.length = m) (hb : m ≤ 1000000) (hk : ks.length ≤ 100) (hp : 0 < m → ∃ b q, p = some ⟨b, q, none⟩) :
    Spc Tryz.prog 25 #[.slice p m c, strV ks] [sls p 1 m (l.map strV)] [] (Is (.bool (allP (ks.map kP) l))) := by
  refine Spc.enter Tryz.func25 rfl rfl rfl (fun w0 hw0 => ?_)
  refine CW.seq (CW.rg (RL.p rfl (RL.nil (NQ.seq (CW.seq (CW.seq (CW.rg (RL.p rfl (RL.lenS Tryz.runUnderlying27 rfl rfl rfl rfl (RL.p rfl (RL.lenTxt Tryz.runUnderlying9 rfl rfl rfl rfl (RL.p rfl (RL.nil ?_)))))))))))))
  refine NQ.seq ?_
  refine CW.cond rfl (fun hne => ?_) (fun hne => ?_)
  · have h' : ks.length ≠ m := by simp at hne; omega
    refine CW.seq (CW.rg (RL.p rfl (RL.nil (NQ.seq (CW.ret (RQ.seq ?_))))))
    exact RQ.post (res1 rfl rfl) (Split.none _) ⟨by rw [allP_ne _ _ (by rw [List.length_map, hl]; exact h')], rfl, rfl⟩
  · have h' : ks.length = m := by simp at hne; omega
    refine CW.skip (NQ.seq (CW.ok [0, 1] rfl (CW.seq (CW.seq (CW.rg (RL.p rfl (RL.nil (NQ.seq (CW.block ?_)))))))))
    refine CW.loop (γ := Nat) (fun i => i ≤ m ∧ allP ((ks.drop i).map kP) (l.drop i) = allP (ks.map kP) l) (fun i => [(0, .slice p m c), (1, strV ks), (5, .int .i64 (i : Int))]) (fun _ => [sls p 1 m (l.map strV)]) (fun _ => []) (fun i => m - i) 0 ⟨by omega, rfl⟩
      (.cons rfl (.cons rfl (.cons rfl .nil))) (fun w h => h) ?_
    rintro i ⟨hi, hinv⟩
    refine CW.seq (CW.seq (CW.rg (RL.p rfl (RL.p rfl (RL.lenS Tryz.runUnderlying27 rfl rfl rfl rfl (RL.p rfl (RL.nil (NQ.seq ?_))))))))
    refine CW.cond rfl (fun hlt => ?_) (fun hlt => ?_)
    ·
      have hlt' : i < m := by simp at hlt; omega
      obtain ⟨b, q, rfl⟩ := hp (by omega)
      have hlk : i < ks.length := by omega
      have hx := List.getElem?_eq_getElem hlk
      have hdk : ks.drop i = ks[i] :: ks.drop (i + 1) := List.drop_eq_getElem_cons hlk
      have hll : i < l.length := by omega
      have hs := List.getElem?_eq_getElem hll
      have hdl : l.drop i = l[i] :: l.drop (i + 1) := List.drop_eq_getElem_cons hll
      generalize ks[i] = x at hx hdk
      generalize l[i] = s at hs hdl
      rw [hdk, hdl] at hinv
      have hinv : (kP x s && allP ((ks.drop (i + 1)).map kP) (l.drop (i + 1))) = allP (ks.map kP) l := hinv
      refine CW.skip (NQ.seq (CW.seq (CW.block (CW.seq (CW.rg (RL.p rfl (RL.nil (NQ.seq (CW.seq (CW.seq (CW.rg (RL.p rfl (RL.p rfl ?_)))))))))))))
      refine RL.idxTxt (j := i) Tryz.runUnderlying9 rfl rfl rfl rfl rfl rfl hx (RL.nil (NQ.seq (CW.ok [0, 1, 5, 20] rfl ?_)))
      refine CW.cutG (γ := Unit) (fun _ => True) (fun _ => [(0, .slice (some ⟨b, q, none⟩) m c), (1, strV ks), (5, .int .i64 (i : Int)), (6, .bool (kP x s))]) (fun _ => [sls (some ⟨b, q, none⟩) 1 m (l.map strV)]) (fun _ => []) ?_ (fun _ _ => ?_)
      ·
        refine CW.block (CW.seq (CW.rg (RL.p rfl (RL.p rfl (RL.nil (NQ.seq ?_))))))
        refine CW.cond rfl (fun g1 => ?_) (fun g1 => ?_)
        · have e : x = 115#8 := by have h := (u8_eq (c := x) (d := 115#8)).symm.trans g1; simpa using h
          have ek : sOk s = kP x s := by rw [kP, if_pos e]
          refine CW.rg (RL.p rfl (RL.p rfl (RL.idxAt (j := i) Tryz.runUnderlying27 Tryz.sizeOf9 rfl rfl rfl rfl rfl rfl hlt' (RL.load Tryz.isAgg9 rfl rfl rfl rfl (slsRdQ (by repeat (first | exact List.Mem.head _ | apply List.Mem.tail)) hs) ?_))))
          refine RL.callvq (rsigned_any s) Tryz.call39 rfl rfl rfl rfl ?_
          refine RL.p rfl (RL.p rfl (RL.p rfl (RL.p rfl (RL.nil (NQ.block ?_)))))
          exact NQ.midG () trivial (.cons rfl (.cons rfl (.cons rfl (.cons (by rw [← ek]; rfl) .nil)))) (fun w h => h)
        · have n1 : ¬ x = 115#8 := by have h := (u8_eq (c := x) (d := 115#8)).symm.trans g1; simpa using h
          refine CW.seq (CW.rg (RL.p rfl (RL.p rfl (RL.nil (NQ.seq ?_)))))
          refine CW.cond rfl (fun g2 => ?_) (fun g2 => ?_)
          · have e : x = 105#8 := by have h := (u8_eq (c := x) (d := 105#8)).symm.trans g2; simpa using h
            have ek : iOk s = kP x s := by rw [kP, if_neg n1, if_pos e]
            refine CW.rg (RL.p rfl (RL.p rfl (RL.idxAt (j := i) Tryz.runUnderlying27 Tryz.sizeOf9 rfl rfl rfl rfl rfl rfl hlt' (RL.load Tryz.isAgg9 rfl rfl rfl rfl (slsRdQ (by repeat (first | exact List.Mem.head _ | apply List.Mem.tail)) hs) ?_))))
            refine RL.callvq (rsigned32_any s) Tryz.call39 rfl rfl rfl rfl ?_
            refine RL.p rfl (RL.p rfl (RL.p rfl (RL.p rfl (RL.nil (NQ.block ?_)))))
            exact NQ.midG () trivial (.cons rfl (.cons rfl (.cons rfl (.cons (by rw [← ek]; rfl) .nil)))) (fun w h => h)
          · have n2 : ¬ x = 105#8 := by have h := (u8_eq (c := x) (d := 105#8)).symm.trans g2; simpa using h
            refine CW.seq (CW.rg (RL.p rfl (RL.p rfl (RL.nil (NQ.seq ?_)))))
            refine CW.cond rfl (fun g3 => ?_) (fun g3 => ?_)
            · have e : x = 117#8 := by have h := (u8_eq (c := x) (d := 117#8)).symm.trans g3; simpa using h
              have ek : rnB 9223372036854775807 s = kP x s := by rw [kP, if_neg n1, if_neg n2, if_pos e, rnB_eq (by decide)]
              refine CW.rg (RL.p rfl (RL.p rfl (RL.idxAt (j := i) Tryz.runUnderlying27 Tryz.sizeOf9 rfl rfl rfl rfl rfl rfl hlt' (RL.load Tryz.isAgg9 rfl rfl rfl rfl (slsRdQ (by repeat (first | exact List.Mem.head _ | apply List.Mem.tail)) hs) ?_))))
              refine RL.callvq (rnumber_any s 9223372036854775807) Tryz.call27 rfl rfl rfl rfl ?_
              refine RL.p rfl (RL.p rfl (RL.p rfl (RL.p rfl (RL.nil (NQ.block ?_)))))
              exact NQ.midG () trivial (.cons rfl (.cons rfl (.cons rfl (.cons (by rw [← ek]; rfl) .nil)))) (fun w h => h)
            · have n3 : ¬ x = 117#8 := by have h := (u8_eq (c := x) (d := 117#8)).symm.trans g3; simpa using h
              have ek : rnB 4294967295 s = kP x s := by rw [kP, if_neg n1, if_neg n2, if_neg n3, rnB_eq (by decide)]
              refine CW.rg (RL.p rfl (RL.p rfl (RL.idxAt (j := i) Tryz.runUnderlying27 Tryz.sizeOf9 rfl rfl rfl rfl rfl rfl hlt' (RL.load Tryz.isAgg9 rfl rfl rfl rfl (slsRdQ (by repeat (first | exact List.Mem.head _ | apply List.Mem.tail)) hs) ?_))))
              refine RL.callvq (rnumber_any s 4294967295) Tryz.call27 rfl rfl rfl rfl ?_
              refine RL.p rfl (RL.p rfl (RL.p rfl (RL.p rfl (RL.nil (NQ.block ?_)))))
              exact NQ.midG () trivial (.cons rfl (.cons rfl (.cons rfl (.cons (by rw [← ek]; rfl) .nil)))) (fun w h => h)
      · have q0 := hlt'
        refine CW.seq (CW.rg (RL.p rfl (RL.p rfl (RL.nil (NQ.seq ?_)))))
        refine CW.cond rfl (fun hk => ?_) (fun hk => ?_)
        · have e : kP x s = false := by simpa using hk
          rw [e] at hinv
          refine CW.seq (CW.rg (RL.p rfl (RL.nil (NQ.seq (CW.ret (RQ.block (RQ.seq (RQ.seq (RQ.block (RQ.seq ?_))))))))))
          exact RQ.post (res1 rfl rfl) (Split.none _) ⟨by rw [← hinv]; rfl, rfl, rfl⟩
        · have e : kP x s = true := by simpa using hk
          rw [e] at hinv
          refine CW.skip (NQ.block (NQ.seq (CW.rg (RL.p rfl (RL.bx rfl (wrapV_i64 (by omega) (by omega)) ?_)))))
          refine RL.p rfl (RL.nil ?_)
          exact NQ.round (g := i) (i + 1) ⟨hlt', hinv⟩ (by show m - (i + 1) < m - i; omega) (.cons rfl (.cons rfl (.cons rfl .nil))) (fun w h => h)
    · have hin : i = m := by simp at hlt; omega
      subst hin
      rw [show ks.drop i = [] from List.drop_eq_nil_of_le (by omega), show l.drop i = [] from List.drop_eq_nil_of_le (by omega)] at hinv
      refine CW.exit (XQ.seq (XQ.seq (XQ.hit (NQ.seq (CW.ok [] rfl (CW.seq (CW.rg (RL.p rfl (RL.nil (NQ.seq (CW.ret ?_)))))))))))
      exact RQ.post (res1 rfl rfl) (Split.none _) ⟨by rw [← hinv]; rfl, rfl, rfl⟩
end Go.Proofs.YtpaemkemknfmfaaGreatDoor

namespace Go.Proofs.YtpaemkemknfmfaaGreatDoor
open Go.PK
/-! ### Bytes that are written as pairs of digits, as the reference has them -/
abbrev u8s (zs : List Int) : List Value := zs.map fun z => .int .u8 z
theorem u8s_set {zs : List Int} {j : Nat} (v : Int) (h : j < zs.length) : spl (u8s zs) (j * 1) [.int .u8 v] = u8s (zs.take j ++ [v] ++ zs.drop (j + 1)) := by
  rw [Nat.mul_one, spl_one (by rw [List.length_map]; exact h)]
  simp [List.map_take, List.map_drop]
theorem u8Rd {I H : List It} {b cap n j : Nat} {e : TypeId} {xs : List Value} {v : Value} (hm : own (some b) cap e 1 n xs ∈ H) (h : xs[j]? = some v) : Rd I H ⟨b, 0 + j * 1, none⟩ v := by
  have h2 := (Rds.own (I := I) hm).rd (j := j * 1) (v := v) (by rw [show j * 1 = j by omega]; exact h)
  rwa [add_none] at h2
def HxR (s : Tx) : Value → List It → List It → Prop := fun v I' H' => (∃ q m c, v = .tuple #[.slice q m c, .bool (hxOk s)]) ∧ I' = [] ∧ H' = []
theorem rhex_any (s : Tx) : Spc Tryz.prog 26 #[strV s] [] [] (HxR s) := by
  have hrm : ∀ i : Nat, ((i : Nat) : Int).tmod 2 = ((i % 2 : Nat) : Int) := fun i => by rw [Int.tmod_eq_emod_of_nonneg (by omega)]; omega
  refine Spc.enter Tryz.func26 rfl rfl rfl (fun w0 hw0 => ?_)
  refine CW.seq (CW.rg (RL.p rfl (RL.p rfl (RL.nil (NQ.seq (CW.seq (CW.seq (CW.rg (RL.p rfl (RL.lenTxt Tryz.runUnderlying9 rfl rfl rfl rfl (RL.p rfl (RL.p rfl ?_))))))))))))
  apply RL.orB (d := 10) (dp := 14) (l' := (Sq.of [8, 9, 10, 11, 12, 13])) rfl (sK [0, 2, 3] rfl)
  ·
    intro hb4 K4
    refine RL.p rfl (RL.lenTxt Tryz.runUnderlying9 rfl rfl rfl rfl (RL.p rfl (RL.p rfl ?_)))
    exact K4 _ (.cons rfl (sK [0, 2, 3] rfl))
  ·
    intro hb4 K4
    refine RL.p rfl (RL.p rfl (RL.p rfl (RL.p rfl ?_)))
    exact K4 _ (.cons rfl (sK [0, 2, 3] rfl))
  refine RL.p rfl ?_
  apply RL.orB (d := 15) (dp := 20) (l' := (Sq.of [])) rfl (sK [0, 2, 3] rfl)
  ·
    intro hb9 K9
    refine RL.p rfl (RL.lenTxt Tryz.runUnderlying9 rfl rfl rfl rfl (RL.rem rfl rfl rfl rfl rfl (by decide) ?_))
    refine RL.p rfl (RL.p rfl ?_)
    exact K9 _ (.cons rfl (sK [0, 2, 3] rfl))
  ·
    intro hb9 K9
    refine RL.p rfl (RL.p rfl (RL.p rfl (RL.p rfl (RL.p rfl ?_))))
    exact K9 _ (.cons rfl (sK [0, 2, 3] rfl))
  refine RL.nil (NQ.seq ?_)
  refine CW.cond rfl (fun h => ?_) (fun h => ?_)
  · have hno : hxOk s = false := by
      cases hh : hxOk s with
      | false => rfl
      | true =>
        rw [hrm] at h
        rw [hxOk, Bool.and_eq_true, decide_eq_true_eq] at hh
        simp only [Bool.or_eq_true, decide_eq_true_eq, beq_iff_eq] at h
        omega
    refine CW.seq (CW.rg (RL.p rfl (RL.p rfl (RL.nil (NQ.seq (CW.ret (RQ.seq ?_)))))))
    exact RQ.post (res2 rfl rfl rfl) (Split.none _) ⟨⟨_, _, _, by rw [hno]⟩, rfl, rfl⟩
  · have h' : 0 < s.length ∧ s.length ≤ 800 ∧ s.length % 2 = 0 := by rw [hrm] at h; simp only [Bool.or_eq_false_iff, decide_eq_false_iff_not, beq_eq_false_iff_ne, ne_eq] at h; omega
    obtain ⟨hp, h8, h2⟩ := h'
    have hdv : ∀ i : Nat, i ≤ 800 → IntKind.i64.wrap ((i : Int).tdiv 2) = ((i / 2 : Nat) : Int) := fun i hi => by
      rw [Int.tdiv_eq_ediv_of_nonneg (by omega)]
      simp [IntKind.wrap, IntKind.bits, IntKind.signed]; omega
    refine CW.skip (NQ.seq (CW.seq (CW.region (ef := [0]) (bk := []) (RL.buildOwn [] Tryz.runUnderlying43 Tryz.sizeOf5 Tryz.zeroValue5 rfl rfl (by decide) (by decide) rfl (by decide) rfl rfl rfl rfl rfl rfl ?_))))
    intro b1
    refine RL.p rfl (RL.nil (NQ.seq (CW.seq (CW.seq (CW.rg (RL.p rfl (RL.nil (NQ.seq (CW.block ?_)))))))))
    refine CW.loop (γ := Nat × List Int × Option Nat × Nat) (fun g => (g.1 ≤ s.length ∧ g.2.1.length = (g.1 + 1) / 2 ∧ (0 < g.1 → g.2.2.1.isSome = true)) ∧ (s.take g.1).all hexB = true)
      (fun g => [(0, strV s), (4, slO g.2.2.1 g.2.1.length g.2.2.2), (5, .int .i64 (g.1 : Int))]) (fun _ => []) (fun g => [own g.2.2.1 g.2.2.2 5 1 g.2.1.length (u8s g.2.1)]) (fun g => s.length - g.1) (0, [], some b1, 0) ⟨⟨by omega, by show 0 = (0 + 1) / 2; decide, fun _ => rfl⟩, rfl⟩
      (.cons rfl (.cons rfl (.cons rfl .nil))) (fun w h => h) ?_
    rintro ⟨i, zs, ob, cp⟩ ⟨⟨hi, hzl, hob⟩, hall⟩
    dsimp only at hi hzl hob hall ⊢
    refine CW.seq (CW.seq (CW.rg (RL.p rfl (RL.p rfl (RL.lenTxt Tryz.runUnderlying9 rfl rfl rfl rfl (RL.p rfl (RL.nil (NQ.seq ?_))))))))
    refine CW.cond rfl (fun hlt => ?_) (fun hlt => ?_)
    ·
      have hlt' : i < s.length := by simp at hlt; omega
      have hc : s[i]? = some (s[i]'hlt') := List.getElem?_eq_getElem hlt'
      generalize s[i]'hlt' = c at hc
      have hcl := c.isLt
      refine CW.skip (NQ.seq (CW.seq (CW.block (CW.seq (CW.rg (RL.p rfl (RL.nil (NQ.seq (CW.seq (CW.seq (CW.rg (RL.p rfl (RL.p rfl ?_)))))))))))))
      refine RL.idxTxt (j := i) Tryz.runUnderlying9 rfl rfl rfl rfl rfl rfl hc (RL.p rfl (RL.p rfl ?_))
      apply RL.andB (d := 32) (dp := 37) (l' := (Sq.of [])) rfl (sK [0, 4, 5, 6] rfl)
      ·
        intro hb5 K5
        refine RL.p rfl (RL.p rfl (RL.idxTxt (j := i) Tryz.runUnderlying9 rfl rfl rfl rfl rfl rfl hc (RL.p rfl (RL.p rfl ?_))))
        exact K5 _ (.cons rfl (sK [0, 4, 5, 6] rfl))
      ·
        intro hb5 K5
        refine RL.p rfl (RL.p rfl (RL.p rfl (RL.p rfl (RL.p rfl ?_))))
        exact K5 _ (.cons rfl (sK [0, 4, 5, 6] rfl))
      refine RL.nil (NQ.seq ?_)
      refine CW.cutR (γ := Nat) (fun d => d < 16 ∧ hexB c = true) (fun d => [(0, strV s), (4, slO ob zs.length cp), (5, .int .i64 (i : Int)), (6, .int .i64 (d : Int))]) (fun _ => []) (fun _ => [own ob cp 5 1 zs.length (u8s zs)]) ?_ ?_
      ·
        refine CW.cond rfl (fun h1 => ?_) (fun h1 => ?_)
        · have h1' : 48 ≤ c.toNat ∧ c.toNat ≤ 57 := by simp only [Bool.and_eq_true, decide_eq_true_eq] at h1; omega
          have hx : hexB c = true := decide_eq_true (.inl h1')
          refine CW.rg (RL.p rfl (RL.p rfl (RL.idxTxt (j := i) Tryz.runUnderlying9 rfl rfl rfl rfl rfl rfl hc (RL.bx rfl (wrapV_u8 (by omega) (by omega)) ?_))))
          refine RL.conv Tryz.runUnderlying5 Tryz.runUnderlying3 rfl rfl rfl rfl (RL.cast (d := 42) (v' := .int .i64 ((c.toNat - 48 : Nat) : Int)) rfl (by rw [show (c.toNat : Int) - 48 = ((c.toNat - 48 : Nat) : Int) by omega, wrapV_i64 (by omega) (by omega)]) ?_)
          refine RL.p rfl (RL.nil ?_)
          exact NQ.midR (c.toNat - 48) ⟨by omega, hx⟩ (.cons rfl (.cons rfl (.cons rfl (.cons rfl .nil)))) (fun w h => h)
        · have n1 : ¬ (48 ≤ c.toNat ∧ c.toNat ≤ 57) := by
            rintro ⟨q1, q2⟩
            simp only [Bool.and_eq_false_iff, decide_eq_false_iff_not] at h1
            omega
          refine CW.seq (CW.rg (RL.p rfl (RL.p rfl (RL.idxTxt (j := i) Tryz.runUnderlying9 rfl rfl rfl rfl rfl rfl hc (RL.p rfl (RL.p rfl ?_))))))
          apply RL.andB (d := 47) (dp := 52) (l' := (Sq.of [])) rfl (sK [0, 4, 5, 6, 37] rfl)
          ·
            intro hb5 K5
            refine RL.p rfl (RL.p rfl (RL.idxTxt (j := i) Tryz.runUnderlying9 rfl rfl rfl rfl rfl rfl hc (RL.p rfl (RL.p rfl ?_))))
            exact K5 _ (.cons rfl (sK [0, 4, 5, 6, 37] rfl))
          ·
            intro hb5 K5
            refine RL.p rfl (RL.p rfl (RL.p rfl (RL.p rfl (RL.p rfl ?_))))
            exact K5 _ (.cons rfl (sK [0, 4, 5, 6, 37] rfl))
          refine RL.nil (NQ.seq ?_)
          refine CW.cond rfl (fun h3 => ?_) (fun h3 => ?_)
          · have h3' : 97 ≤ c.toNat ∧ c.toNat ≤ 102 := by simp only [Bool.and_eq_true, decide_eq_true_eq] at h3; omega
            have hx : hexB c = true := decide_eq_true (.inr h3')
            refine CW.rg (RL.p rfl (RL.p rfl (RL.idxTxt (j := i) Tryz.runUnderlying9 rfl rfl rfl rfl rfl rfl hc (RL.bx rfl (wrapV_u8 (by omega) (by omega)) ?_))))
            refine RL.conv Tryz.runUnderlying5 Tryz.runUnderlying3 rfl rfl rfl rfl (RL.cast (d := 57) (v' := .int .i64 ((c.toNat - 97 : Nat) : Int)) rfl (by rw [show (c.toNat : Int) - 97 = ((c.toNat - 97 : Nat) : Int) by omega, wrapV_i64 (by omega) (by omega)]) ?_)
            refine RL.bx rfl (wrapV_i64 (by omega) (by omega)) ?_
            refine RL.p rfl (RL.nil ?_)
            exact NQ.midR (c.toNat - 97 + 10) ⟨by omega, hx⟩ (.cons rfl (.cons rfl (.cons rfl (.cons (by show some (Value.int .i64 (((c.toNat - 97 : Nat) : Int) + 10)) = some (Value.int .i64 ((c.toNat - 97 + 10 : Nat) : Int)); congr 2) .nil)))) (fun w h => h)
          · have n3 : ¬ (97 ≤ c.toNat ∧ c.toNat ≤ 102) := by
              rintro ⟨q1, q2⟩
              simp only [Bool.and_eq_false_iff, decide_eq_false_iff_not] at h3
              omega
            have hx : hexB c = false := decide_eq_false (by rintro (q | q); exact n1 q; exact n3 q)
            have hno : hxOk s = false := by
              have : s.all hexB = false := by
                rw [List.all_eq_false]
                exact ⟨c, List.mem_of_getElem? hc, by rw [hx]; simp⟩
              rw [hxOk, this, Bool.and_false]
            refine CW.seq (CW.rg (RL.p rfl (RL.p rfl (RL.nil (NQ.seq (CW.ret ?_))))))
            exact RQ.midR (RQ.post (res2 rfl rfl rfl) (.drop .nil) ⟨⟨_, _, _, by rw [hno]⟩, rfl, rfl⟩)
      · rintro d ⟨hd, hx⟩
        have hal2 : (s.take (i + 1)).all hexB = true := by rw [hx_all hc, hall, hx]; rfl
        refine CW.seq (CW.rg (RL.p rfl (RL.rem rfl rfl rfl rfl rfl (by decide) ?_)))
        refine RL.p rfl (RL.nil (NQ.seq ?_))
        refine CW.cond rfl (fun hev => ?_) (fun hev => ?_)
        · have hi2 : i % 2 = 0 := by rw [hrm] at hev; simp only [beq_iff_eq] at hev; omega
          have hl1 : (zs ++ [IntKind.u8.wrap (16 * (d : Int))]).length = zs.length + 1 := by simp
          refine CW.region (ef := [4, 5]) (bk := [5]) (RL.p rfl (RL.p rfl (RL.bx rfl (wrapV_i64 (by omega) (by omega)) ?_)))
          refine RL.conv Tryz.runUnderlying3 Tryz.runUnderlying5 rfl rfl rfl rfl (RL.buildOwn [_] Tryz.runUnderlying43 Tryz.sizeOf5 Tryz.zeroValue5 rfl rfl (by decide) (by decide) rfl (by decide) rfl rfl rfl rfl rfl rfl ?_)
          intro b2
          refine RL.appendq el_43 rfl rfl rfl rfl rfl rfl rfl ?_
          intro ob1 cap1 ho1
          refine RL.p rfl (RL.nil (NQ.block (NQ.seq (CW.ok [0, 4, 5] rfl (CW.rg (RL.p rfl (RL.bx rfl (wrapV_i64 (by omega) (by omega)) ?_)))))))
          refine RL.p rfl (RL.nil ?_)
          refine NQ.round (g := (i, zs, ob, cp)) (i + 1, zs ++ [IntKind.u8.wrap (16 * (d : Int))], ob1, cap1) ⟨⟨hlt', by rw [hl1, hzl]; show (i + 1) / 2 + 1 = (i + 1 + 1) / 2; omega, fun _ => ho1.resolve_left (by omega)⟩, hal2⟩ (by show s.length - (i + 1) < s.length - i; omega) (.cons rfl (.cons (by dsimp only; rw [hl1]; rfl) (.cons rfl .nil))) (fun w h => ?_)
          dsimp only
          rw [hl1, show u8s (zs ++ [IntKind.u8.wrap (16 * (d : Int))]) = u8s zs ++ [.int .u8 (IntKind.u8.wrap (16 * (d : Int)))] from List.map_append]
          exact h.rea (fun _ h => h) (by repeat (first | exact Rea.nil | (apply Rea.cons; (solve | (repeat (first | exact Del.here | apply Del.there))))))
        · have hi2 : i % 2 = 1 := by rw [hrm] at hev; simp only [beq_eq_false_iff_ne, ne_eq] at hev; omega
          have hj : i / 2 < zs.length := by omega
          obtain ⟨b, rfl⟩ := Option.isSome_iff_exists.1 (hob (by omega))
          have hz : (u8s zs)[i / 2]? = some (.int .u8 zs[i / 2]) := by rw [List.getElem?_map, List.getElem?_eq_getElem hj]; rfl
          generalize zs[i / 2] = z at hz
          refine CW.region (ef := [9]) (bk := [9]) (RL.p rfl (RL.p rfl (RL.quo rfl rfl rfl rfl rfl (by decide) ?_)))
          refine RL.idxAt (j := i / 2) Tryz.runUnderlying43 Tryz.sizeOf5 rfl rfl rfl rfl rfl (hdv i (by omega)) hj ?_
          refine RL.load Tryz.isAgg5 rfl rfl rfl rfl (u8Rd (by repeat (first | exact List.Mem.head _ | apply List.Mem.tail)) hz) ?_
          refine RL.p rfl (RL.conv Tryz.runUnderlying3 Tryz.runUnderlying5 rfl rfl rfl rfl (RL.p rfl (RL.idxAt (j := i / 2) Tryz.runUnderlying43 Tryz.sizeOf5 rfl rfl rfl rfl rfl (hdv i (by omega)) hj ?_)))
          refine RL.storeO (off := i / 2 * 1) (vs := [_]) (u8s_set _ hj) Tryz.sizeOf5 rfl rfl rfl rfl rfl (by rw [add_none]) rfl rfl rfl (by rw [List.length_map]; show i / 2 * 1 + 1 ≤ _; omega) (by repeat (first | exact Upd.here | apply Upd.there)) ?_
          refine RL.nil (NQ.block (NQ.seq (CW.ok [0, 4, 5] rfl (CW.rg (RL.p rfl (RL.bx rfl (wrapV_i64 (by omega) (by omega)) ?_))))))
          refine RL.p rfl (RL.nil ?_)
          have hl1 : ∀ v : Int, (zs.take (i / 2) ++ [v] ++ zs.drop (i / 2 + 1)).length = zs.length := fun v => by simp; omega
          refine NQ.round (g := (i, zs, some b, cp)) (i + 1, zs.take (i / 2) ++ [IntKind.u8.wrap (z + IntKind.u8.wrap (d : Int))] ++ zs.drop (i / 2 + 1), some b, cp) ⟨⟨hlt', by rw [hl1, hzl]; show (i + 1) / 2 = (i + 1 + 1) / 2; omega, fun _ => rfl⟩, hal2⟩ (by show s.length - (i + 1) < s.length - i; omega) (.cons rfl (.cons (by dsimp only; rw [hl1]; rfl) (.cons rfl .nil))) (fun w h => ?_)
          dsimp only
          rw [hl1]
          exact h.rea (fun _ h => h) (by repeat (first | exact Rea.nil | (apply Rea.cons; (solve | (repeat (first | exact Del.here | apply Del.there))))))
    · have hin : i = s.length := by simp at hlt; omega
      subst hin
      rw [List.take_length] at hall
      have hok : hxOk s = true := by rw [hxOk, hall, Bool.and_true, decide_eq_true_eq]; exact ⟨hp, h8, h2⟩
      refine CW.exit (XQ.seq (XQ.seq (XQ.hit (NQ.seq (CW.ok [4] rfl (CW.seq (CW.rg (RL.p rfl (RL.p rfl (RL.p rfl (RL.nil (NQ.seq (CW.ret ?_)))))))))))))
      exact RQ.post (res2 rfl rfl rfl) (.drop .nil) ⟨⟨_, _, _, by rw [hok]⟩, rfl, rfl⟩
end Go.Proofs.YtpaemkemknfmfaaGreatDoor
