import Derived.Test.YthndhipjfdgdfaaGreatDoorWA
import Derived.Test.YthndhipjfdgdfaaGreatDoorXA
set_option linter.unusedVariables false
set_option linter.unusedSimpArgs false
namespace Go.Proofs.YthndhipjfdgdfaaGreatDoor
open Go.PK
/-! ### What the words' walks mean (plain Lean) -/
theorem numsL_some : ∀ {w : List Tx} {l : List Int}, numsL w = some l → (∀ s ∈ w, (numT s).isSome = true) ∧ l = w.map numV
  | [], l, h => by simp [numsL] at h; simp [h]
  | a :: r, l, h => by
    rw [numsL] at h
    split at h
    · next v m hv hm =>
      obtain ⟨h1, rfl⟩ := numsL_some hm
      obtain rfl := Option.some.inj h
      refine ⟨fun s hs => ?_, by rw [List.map_cons, (numV_of hv).1]⟩
      rcases List.mem_cons.1 hs with rfl | hs
      · rw [hv]; rfl
      · exact h1 s hs
    · cases h
theorem numsL_all : ∀ {w : List Tx}, (∀ s ∈ w, (numT s).isSome = true) → numsL w = some (w.map numV)
  | [], _ => rfl
  | a :: r, h => by
    obtain ⟨v, hv⟩ := Option.isSome_iff_exists.1 (h a (by simp))
    rw [numsL, hv, numsL_all (fun s hs => h s (by simp [hs])), List.map_cons, (numV_of hv).1]
theorem nWk_front (ws : List Tx) : ∀ (k : Nat) (x : Wd), nWk ws (k + 1) x = nWk ws k (nW ws x)
  | 0, _ => rfl
  | k + 1, x => by rw [nWk, nWk_front ws k x]; rfl
theorem nWk_bad (ws : List Tx) : ∀ (k j : Nat), (nWk ws k (j, false)).2 = false
  | 0, _ => rfl
  | k + 1, j => by rw [nWk_front]; exact nWk_bad ws k _
theorem nWk_fst (ws : List Tx) : ∀ (k : Nat) (x : Wd), x.1 ≤ ws.length → (nWk ws k x).1 = min (x.1 + k) ws.length
  | 0, x, h => by rw [nWk]; omega
  | k + 1, x, h => by
    have := nWk_fst ws k x h
    rw [nWk]
    show min ((nWk ws k x).1 + 1) ws.length = _
    omega
/-- So many numbers, and nothing behind them. -/
def allN (w : List Tx) (k : Nat) : Prop := w.length = k ∧ ∀ s ∈ w, (numT s).isSome = true
theorem nWk_iff (ws : List Tx) : ∀ (k j : Nat), j ≤ ws.length → (((nWk ws k (j, true)).2 = true ∧ (nWk ws k (j, true)).1 = ws.length) ↔ allN (ws.drop j) k)
  | 0, j, hj => by
    rw [nWk, allN, List.length_drop]
    constructor
    · rintro ⟨-, h⟩
      have h : j = ws.length := h
      refine ⟨by omega, fun s hs => ?_⟩
      rw [List.drop_eq_nil_of_le (by omega)] at hs; cases hs
    · rintro ⟨h, -⟩; exact ⟨rfl, show j = ws.length by omega⟩
  | k + 1, j, hj => by
    rw [nWk_front]
    rcases Nat.lt_or_ge j ws.length with hlt | hge
    · have hd : ws.drop j = ws[j] :: ws.drop (j + 1) := List.drop_eq_getElem_cons hlt
      have hx : nW ws (j, true) = (j + 1, (numT ws[j]).isSome) := by
        show (min (j + 1) ws.length, true && (numT (ws.getD j [])).isSome) = _
        rw [List.getD_eq_getElem?_getD, List.getElem?_eq_getElem hlt, Nat.min_eq_left (by omega), Bool.true_and]; rfl
      rw [hx, hd]
      cases hs : (numT ws[j]).isSome with
      | false =>
        constructor
        · rintro ⟨h, -⟩; rw [nWk_bad] at h; cases h
        · rintro ⟨-, h⟩
          have := h ws[j] (List.mem_cons_self ..)
          rw [hs] at this; cases this
      | true =>
        rw [nWk_iff ws k (j + 1) (by omega), allN, allN, List.length_cons]
        constructor
        · rintro ⟨h1, h2⟩
          refine ⟨by omega, fun s h => ?_⟩
          rcases List.mem_cons.1 h with rfl | h
          · exact hs
          · exact h2 s h
        · rintro ⟨h1, h2⟩
          exact ⟨by omega, fun s h => h2 s (List.mem_cons_of_mem _ h)⟩
    · have hx : nW ws (j, true) = (ws.length, false) := by
        show (min (j + 1) ws.length, true && (numT (ws.getD j [])).isSome) = _
        rw [List.getD_eq_getElem?_getD, List.getElem?_eq_none (by omega), Nat.min_eq_right (by omega), Bool.true_and]; rfl
      rw [hx]
      constructor
      · rintro ⟨h, -⟩; rw [nWk_bad] at h; cases h
      · rintro ⟨h, -⟩
        rw [List.length_drop] at h; omega
/-- All words are taken, and all was good. -/
def wEnd (ws : List Tx) (x : Wd) : Bool := x.2 && decide (x.1 = ws.length)
theorem wEnd_iff {ws : List Tx} {x : Wd} : wEnd ws x = true ↔ x.2 = true ∧ x.1 = ws.length := by simp [wEnd]
theorem end_n {nm : Tx} {w : List Tx} {k : Nat} : wEnd (nm :: w) (nWk (nm :: w) k (1, true)) = true ↔ allN w k := by
  rw [wEnd_iff, nWk_iff (nm :: w) k 1 (by simp)]; rfl
theorem allN_nums {w : List Tx} {k : Nat} (h : allN w k) : numsL w = some (w.map numV) := numsL_all h.2
theorem nums_allN {w : List Tx} {l : List Int} (h : numsL w = some l) : allN w l.length := by
  obtain ⟨h1, rfl⟩ := numsL_some h
  exact ⟨by simp, h1⟩
/-- Of a line that stands there once: as the document says. -/
theorem one_spec (P : Pl) (nm : Tx) (w : List Tx) : oneT P nm w = match oneV (nm :: w) P nm (1, true) with
    | none => none
    | some q => if wEnd (nm :: w) q.2 = true then some q.1 else none := by
  obtain ⟨⟨g0, g1, g2, dr, ⟨s0, s1, s2, s3⟩, cm, mo, ti, gr, sd, L⟩, zs, de, ra, m, sz⟩ := P
  unfold oneT oneV
  dsimp only
  by_cases h0 : nm = nGravity
  · rw [if_pos h0, if_pos h0]
    dsimp only
    by_cases he : allN w 3
    · rw [if_pos (end_n.2 he), allN_nums he]
      obtain ⟨hl, -⟩ := he
      match w, hl with
      | [a, b, c], _ => rfl
    · rw [if_neg (fun h => he (end_n.1 h))]
      split
      · next h => exact absurd (nums_allN h) he
      · rfl
  rw [if_neg h0, if_neg h0]
  by_cases h1 : nm = nDrift
  · rw [if_pos h1, if_pos h1]
    dsimp only
    by_cases he : allN w 1
    · rw [if_pos (end_n.2 he), allN_nums he]
      obtain ⟨hl, -⟩ := he
      match w, hl with
      | [a], _ => rfl
    · rw [if_neg (fun h => he (end_n.1 h))]
      split
      · next h => exact absurd (nums_allN h) he
      · rfl
  rw [if_neg h1, if_neg h1]
  by_cases h2 : nm = nSlot
  · rw [if_pos h2, if_pos h2]
    dsimp only
    by_cases he : allN w 4
    · rw [if_pos (end_n.2 he), allN_nums he]
      obtain ⟨hl, -⟩ := he
      match w, hl with
      | [a, b, c, d], _ => rfl
    · rw [if_neg (fun h => he (end_n.1 h))]
      split
      · next h => exact absurd (nums_allN h) he
      · rfl
  rw [if_neg h2, if_neg h2]
  by_cases h3 : nm = nCommit
  · rw [if_pos h3, if_pos h3]
    dsimp only
    match w with
    | [] => rfl
    | [k] =>
      have e : wEnd [nm, k] (kW [nm, k] (1, true)) = (keyT k).isSome := by
        show ((true && (keyT k).isSome) && decide (min (1 + 1) 2 = 2)) = _
        simp
      dsimp only
      rw [e]
      cases hk : keyT k with
      | none => rfl
      | some b =>
        show some _ = some _
        have : keyV (nxW [nm, k] (1, true)) = b := by
          show keyV k = b
          unfold keyT at hk
          split at hk
          · next h => rw [keyV, if_pos h.1]; exact Option.some.inj hk
          · cases hk
        rw [this]
    | a :: b :: r =>
      rw [if_neg]
      intro h
      have := (wEnd_iff.1 h).2
      have h2 : (kW (nm :: a :: b :: r) (1, true)).1 = min (1 + 1) (nm :: a :: b :: r).length := rfl
      rw [h2] at this; simp at this
  rw [if_neg h3, if_neg h3]
  by_cases h4 : nm = nLock
  · rw [if_pos h4, if_pos h4]
    dsimp only
    by_cases he : allN w 2
    · rw [if_pos (end_n.2 he), allN_nums he]
      obtain ⟨hl, -⟩ := he
      match w, hl with
      | [a, b], _ => rfl
    · rw [if_neg (fun h => he (end_n.1 h))]
      split
      · next h => exact absurd (nums_allN h) he
      · rfl
  rw [if_neg h4, if_neg h4]
  by_cases h5 : nm = nGrace
  · rw [if_pos h5, if_pos h5]
    dsimp only
    by_cases he : allN w 1
    · rw [if_pos (end_n.2 he), allN_nums he]
      obtain ⟨hl, -⟩ := he
      match w, hl with
      | [a], _ => rfl
    · rw [if_neg (fun h => he (end_n.1 h))]
      split
      · next h => exact absurd (nums_allN h) he
      · rfl
  rw [if_neg h5, if_neg h5]
  by_cases h6 : nm = nStride
  · rw [if_pos h6, if_pos h6]
    dsimp only
    match w with
    | [] => rfl
    | [k] =>
      have e : wEnd [nm, k] (bW [nm, k] (1, true)) = (bareT k).isSome := by
        show ((true && (bareT k).isSome) && decide (min (1 + 1) 2 = 2)) = _
        simp
      dsimp only
      rw [e]
      cases hk : bareT k with
      | none => rfl
      | some b =>
        show some _ = some _
        have : bareV (nxW [nm, k] (1, true)) = b := (bareV_of hk).1
        rw [this]
    | a :: b :: r =>
      rw [if_neg]
      intro h
      have := (wEnd_iff.1 h).2
      have h2 : (bW (nm :: a :: b :: r) (1, true)).1 = min (1 + 1) (nm :: a :: b :: r).length := rfl
      rw [h2] at this; simp at this
  rw [if_neg h6, if_neg h6]
  by_cases h7 : nm = nClock
  · rw [if_pos h7, if_pos h7]
    dsimp only
    by_cases he : allN w 3
    · rw [if_pos (end_n.2 he), allN_nums he]
      obtain ⟨hl, -⟩ := he
      match w, hl with
      | [a, b, c], _ => rfl
    · rw [if_neg (fun h => he (end_n.1 h))]
      split
      · next h => exact absurd (nums_allN h) he
      · rfl
  rw [if_neg h7, if_neg h7]
  by_cases h8 : nm = nTrace
  · rw [if_pos h8, if_pos h8]
    dsimp only
    by_cases he : allN w 1
    · rw [if_pos (end_n.2 he), allN_nums he]
      obtain ⟨hl, -⟩ := he
      match w, hl with
      | [a], _ => rfl
    · rw [if_neg (fun h => he (end_n.1 h))]
      split
      · next h => exact absurd (nums_allN h) he
      · rfl
  rw [if_neg h8, if_neg h8]
end Go.Proofs.YthndhipjfdgdfaaGreatDoor

namespace Go.Proofs.YthndhipjfdgdfaaGreatDoor
open Go.PK
/-! ### Sources and zones: as the document says (plain Lean) -/
theorem nWk_add (ws : List Tx) (i : Nat) : ∀ (k : Nat) (x : Wd), nWk ws k (nWk ws i x) = nWk ws (k + i) x
  | 0, x => by rw [Nat.zero_add]; rfl
  | k + 1, x => by rw [nWk, nWk_add ws i k x, show k + 1 + i = (k + i) + 1 by omega]; rfl
theorem wEnd_bad {ws : List Tx} {x : Wd} (h : x.2 = false) : wEnd ws x = false := by rw [wEnd, h]; rfl
theorem srcW_bad {ws : List Tx} {x : Wd} (h : (kW ws (nWk ws 2 x)).2 = false) : wEnd ws (srcW ws x) = false := by
  rw [srcW]
  split
  · rw [nWk_add]
    refine wEnd_bad ?_
    rw [show kW ws (nWk ws 2 x) = ((kW ws (nWk ws 2 x)).1, false) from Prod.ext rfl h]
    exact nWk_bad _ _ _
  · exact wEnd_bad h
theorem vW_at {ws : List Tx} {x : Wd} (h : x.1 ≤ ws.length) (i : Nat) : vW ws x i = numV (ws.getD (min (x.1 + i) ws.length) []) := by
  rw [vW, nxW, nWk_fst ws i x h]
theorem src_spec (nm : Tx) (w : List Tx) : srcT w = if wEnd (nm :: w) (srcW (nm :: w) (1, true)) = true then some (srcV (nm :: w) (1, true)) else none := by
  match w with
  | [] => rw [srcW_bad (by rfl)]; rfl
  | [a] => rw [srcW_bad (by show ((true && _) && _ && (keyT _).isSome) = false; simp only [nxW]; exact Bool.and_false _)]; rfl
  | [a, b] => rw [srcW_bad (by show ((true && _) && _ && (keyT _).isSome) = false; exact Bool.and_false _)]; rfl
  | a :: b :: k :: r =>
    have y2 : nWk (nm :: a :: b :: k :: r) 2 (1, true) = (3, (numT a).isSome && (numT b).isSome) := by
      have e1 : nW (nm :: a :: b :: k :: r) (1, true) = (2, (numT a).isSome) := by
        show (min (1 + 1) (nm :: a :: b :: k :: r).length, true && (numT a).isSome) = _
        rw [Nat.min_eq_left (by simp), Bool.true_and]
      show nW _ (nW _ (1, true)) = _
      rw [e1]
      show (min (2 + 1) (nm :: a :: b :: k :: r).length, (numT a).isSome && (numT b).isSome) = _
      rw [Nat.min_eq_left (by simp)]
    have y3 : kW (nm :: a :: b :: k :: r) (nWk (nm :: a :: b :: k :: r) 2 (1, true)) = (4, ((numT a).isSome && (numT b).isSome) && (keyT k).isSome) := by
      rw [y2]
      show (min (3 + 1) (nm :: a :: b :: k :: r).length, ((numT a).isSome && (numT b).isSome) && (keyT k).isSome) = _
      rw [Nat.min_eq_left (by simp)]
    rw [srcT]
    cases ha : numT a with
    | none => rw [srcW_bad (by rw [y3, ha]; rfl)]; rfl
    | some id =>
      cases hb : numT b with
      | none => rw [srcW_bad (by rw [y3, ha, hb]; rfl)]; rfl
      | some kd =>
        cases hk : keyT k with
        | none => rw [srcW_bad (by rw [y3, ha, hb, hk]; rfl)]; rfl
        | some rt =>
          have y3 : kW (nm :: a :: b :: k :: r) (nWk (nm :: a :: b :: k :: r) 2 (1, true)) = (4, true) := by rw [y3, ha, hb, hk]; rfl
          have v0 : vW (nm :: a :: b :: k :: r) (1, true) 0 = id := (numV_of ha).1
          have v1 : vW (nm :: a :: b :: k :: r) (1, true) 1 = kd := by
            rw [vW_at (by simp)]
            show numV ((nm :: a :: b :: k :: r).getD (min (1 + 1) _) []) = _
            rw [Nat.min_eq_left (by simp)]; exact (numV_of hb).1
          have vk : keyV (nxW (nm :: a :: b :: k :: r) (nWk (nm :: a :: b :: k :: r) 2 (1, true))) = rt := by
            rw [y2]
            show keyV k = rt
            unfold keyT at hk
            split at hk
            · next h => rw [keyV, if_pos h.1]; exact Option.some.inj hk
            · cases hk
          dsimp only
          rw [srcW, srcV, v0, v1, vk, y3]
          by_cases hai : aidB kd = true
          · rw [if_pos hai, if_pos hai, if_pos hai, nWk_add]
            by_cases he : allN r 14
            · have hw : wEnd (nm :: a :: b :: k :: r) (nWk (nm :: a :: b :: k :: r) (10 + 4) (4, true)) = true := by
                rw [wEnd_iff, nWk_iff _ _ 4 (by simp)]; exact he
              rw [if_pos hw, allN_nums he]
              obtain ⟨hl, -⟩ := he
              have hv : ∀ i, i < 14 → vW (nm :: a :: b :: k :: r) (4, true) i = numV (r.getD i []) := fun i hi => by
                rw [vW_at (by simp), show min (4 + i) (nm :: a :: b :: k :: r).length = i + 4 by simp; omega]; rfl
              have hv4 : ∀ i, i < 10 → vW (nm :: a :: b :: k :: r) (nWk (nm :: a :: b :: k :: r) 4 (4, true)) i = numV (r.getD (i + 4) []) := fun i hi => by
                rw [vW, nWk_add, ← hv (i + 4) (by omega)]; rfl
              rw [wtV, hv 0 (by decide), hv 1 (by decide), hv 2 (by decide), hv 3 (by decide), hv4 0 (by decide), hv4 1 (by decide), hv4 2 (by decide), hv4 3 (by decide), hv4 4 (by decide), hv4 5 (by decide), hv4 6 (by decide), hv4 7 (by decide), hv4 8 (by decide), hv4 9 (by decide)]
              match r, hl with
              | [c0, c1, c2, c3, c4, c5, c6, c7, c8, c9, ca, cb, cc, cd], _ => rfl
            · have hw : ¬ wEnd (nm :: a :: b :: k :: r) (nWk (nm :: a :: b :: k :: r) (10 + 4) (4, true)) = true := by
                rw [wEnd_iff, nWk_iff _ _ 4 (by simp)]; exact he
              rw [if_neg hw]
              split
              · next h => exact absurd (nums_allN h) he
              · rfl
          · rw [if_neg hai, if_neg hai, if_neg hai]
            cases r with
            | nil => rfl
            | cons c r =>
              rw [if_neg (by simp), if_neg]
              intro h
              have h4 : 4 = (nm :: a :: b :: k :: c :: r).length := (wEnd_iff.1 h).2
              simp at h4
theorem zlp_bad (ws : List Tx) (f j : Nat) (L : List Pt) : zlp ws f (j, false) L = (L, (j, false)) := by
  cases f <;> rfl
theorem nW_at {ws : List Tx} {j : Nat} {g : Bool} (h : j < ws.length) : nW ws (j, g) = (j + 1, g && (numT ws[j]).isSome) := by
  show (min (j + 1) ws.length, g && (numT (ws.getD j [])).isSome) = _
  rw [List.getD_eq_getElem?_getD, List.getElem?_eq_getElem h, Nat.min_eq_left (by omega)]; rfl
theorem nW_past {ws : List Tx} {j : Nat} {g : Bool} (h : ¬ j < ws.length) : (nW ws (j, g)).2 = false := by
  show (g && (numT (ws.getD j [])).isSome) = _
  rw [List.getD_eq_getElem?_getD, List.getElem?_eq_none (by omega)]; exact Bool.and_false _
def evenN (r : List Tx) : Prop := r.length % 2 = 0 ∧ ∀ s ∈ r, (numT s).isSome = true
theorem zlp_spec (ws : List Tx) : ∀ (f j : Nat) (L : List Pt), j ≤ ws.length → ws.length - j < f → (wEnd ws (zlp ws f (j, true) L).2 = true ↔ evenN (ws.drop j)) ∧ (evenN (ws.drop j) → (zlp ws f (j, true) L).1 = L ++ pairsL ((ws.drop j).map numV))
  | 0, j, L, _, h => by omega
  | f + 1, j, L, hj, hf => by
    rw [zlp]
    rcases Nat.lt_or_ge j ws.length with hlt | hge
    · rw [if_pos (by simp [hlt]), nW_at hlt]
      have hd : ws.drop j = ws[j] :: ws.drop (j + 1) := List.drop_eq_getElem_cons hlt
      rcases Nat.lt_or_ge (j + 1) ws.length with hlt2 | hge2
      · have hd2 : ws.drop (j + 1) = ws[j + 1] :: ws.drop (j + 1 + 1) := List.drop_eq_getElem_cons hlt2
        rw [nW_at hlt2, hd, hd2]
        have e0 : vW ws (j, true) 0 = numV ws[j] := by
          rw [vW_at (by show j ≤ _; omega), Nat.min_eq_left (by show j + 0 ≤ _; omega), List.getD_eq_getElem?_getD, List.getElem?_eq_getElem (by show j + 0 < _; omega)]; rfl
        have e1 : vW ws (j, true) 1 = numV ws[j + 1] := by
          rw [vW_at (by show j ≤ _; omega), Nat.min_eq_left (by show j + 1 ≤ _; omega), List.getD_eq_getElem?_getD, List.getElem?_eq_getElem (by show j + 1 < _; omega)]; rfl
        rw [e0, e1]
        cases h1 : (numT ws[j]).isSome with
        | false =>
          rw [show ((true && false) && (numT ws[j + 1]).isSome) = false from rfl, zlp_bad]
          constructor
          · constructor
            · intro h; rw [wEnd_bad rfl] at h; cases h
            · rintro ⟨-, h⟩; have := h ws[j] (List.mem_cons_self ..); rw [h1] at this; cases this
          · rintro ⟨-, h⟩; have := h ws[j] (List.mem_cons_self ..); rw [h1] at this; cases this
        | true =>
          cases h2 : (numT ws[j + 1]).isSome with
          | false =>
            rw [show ((true && true) && false) = false from rfl, zlp_bad]
            constructor
            · constructor
              · intro h; rw [wEnd_bad rfl] at h; cases h
              · rintro ⟨-, h⟩; have := h ws[j + 1] (List.mem_cons_of_mem _ (List.mem_cons_self ..)); rw [h2] at this; cases this
            · rintro ⟨-, h⟩; have := h ws[j + 1] (List.mem_cons_of_mem _ (List.mem_cons_self ..)); rw [h2] at this; cases this
          | true =>
            rw [show ((true && true) && true) = true from rfl]
            obtain ⟨i1, i2⟩ := zlp_spec ws f (j + 1 + 1) (L ++ [(numV ws[j], numV ws[j + 1])]) (by omega) (by omega)
            have hev : evenN (ws[j] :: ws[j + 1] :: ws.drop (j + 1 + 1)) ↔ evenN (ws.drop (j + 1 + 1)) := by
              constructor
              · rintro ⟨a, b⟩
                exact ⟨by simp at a ⊢; omega, fun s hs => b s (List.mem_cons_of_mem _ (List.mem_cons_of_mem _ hs))⟩
              · rintro ⟨a, b⟩
                refine ⟨by simp at a ⊢; omega, fun s hs => ?_⟩
                rcases List.mem_cons.1 hs with rfl | hs
                · exact h1
                · rcases List.mem_cons.1 hs with rfl | hs
                  · exact h2
                  · exact b s hs
            rw [hev]
            exact ⟨i1, fun h => by rw [i2 h, List.append_assoc]; rfl⟩
      · have hno : ¬ evenN (ws.drop j) := by
          rintro ⟨h, -⟩; rw [List.length_drop] at h; omega
        have hb := nW_past (ws := ws) (j := j + 1) (g := true && (numT ws[j]).isSome) (by omega)
        rw [show nW ws (j + 1, true && (numT ws[j]).isSome) = ((nW ws (j + 1, true && (numT ws[j]).isSome)).1, false) from Prod.ext rfl hb, zlp_bad]
        exact ⟨⟨fun h => (by rw [wEnd_bad rfl] at h; cases h), fun h => absurd h hno⟩, fun h => absurd h hno⟩
    · have hj' : j = ws.length := by omega
      rw [if_neg (by simp; omega), List.drop_eq_nil_of_le hge]
      refine ⟨⟨fun _ => ⟨rfl, fun s hs => by cases hs⟩, fun _ => by rw [wEnd_iff]; exact ⟨rfl, hj'⟩⟩, fun _ => by simp [pairsL]⟩
theorem zon_spec (nm : Tx) (w : List Tx) : zonT w = if wEnd (nm :: w) (zonW (nm :: w) (1, true)) = true then some (zonV (nm :: w) (1, true)) else none := by
  have bad : ∀ {ws : List Tx} {x : Wd}, (zonX ws x).2 = false → wEnd ws (zonW ws x) = false := fun {ws x} h => by
    rw [zonW, show zonX ws x = ((zonX ws x).1, false) from Prod.ext rfl h, zlp_bad]; exact wEnd_bad rfl
  match w with
  | [] => rw [bad (by rfl)]; rfl
  | k :: r =>
    have hx : nxW (nm :: k :: r) (1, true) = k := rfl
    have htl : tlW (nm :: k :: r) (1, true) = (2, true) := by
      show (min (1 + 1) (nm :: k :: r).length, true && decide (1 < (nm :: k :: r).length)) = _
      rw [Nat.min_eq_left (by simp)]; simp
    rw [zonT]
    by_cases hk : k = nIn ∨ k = nOut
    · have hh : zonH (nm :: k :: r) (1, true) = true := by rw [zonH, hx]; simpa using hk
      rw [if_pos hk]
      have hX : zonX (nm :: k :: r) (1, true) = nWk (nm :: k :: r) 2 (2, true) := by rw [zonX, if_pos hh, htl]
      match r with
      | [] =>
        rw [bad (by rw [hX]; exact nW_past (ws := [nm, k]) (j := 2) (by simp))]
        rfl
      | [f] =>
        rw [bad (by rw [hX]; exact nW_past (ws := [nm, k, f]) (j := 3) (by simp))]
        show (match numsL [f] with | some (f :: g :: l) => _ | _ => none) = _
        split
        · next h => have := (numsL_some h).2; simp at this
        · rfl
      | f :: g :: l =>
        have hX2 : zonX (nm :: k :: f :: g :: l) (1, true) = (4, (numT f).isSome && (numT g).isSome) := by
          rw [hX]
          show nW _ (nW _ (2, true)) = _
          rw [nW_at (j := 2) (g := true) (by simp), nW_at (j := 3) (by simp)]; rfl
        cases hf : (numT f).isSome with
        | false =>
          rw [bad (by rw [hX2, hf]; rfl)]
          split
          · next h => have := (numsL_some h).1 f (by simp); rw [hf] at this; cases this
          · rfl
        | true =>
          cases hg : (numT g).isSome with
          | false =>
            rw [bad (by rw [hX2, hf, hg]; rfl)]
            split
            · next h => have := (numsL_some h).1 g (by simp); rw [hg] at this; cases this
            · rfl
          | true =>
            have hX3 : zonX (nm :: k :: f :: g :: l) (1, true) = (4, true) := by rw [hX2, hf, hg]; rfl
            obtain ⟨i1, i2⟩ := zlp_spec (nm :: k :: f :: g :: l) ((nm :: k :: f :: g :: l).length + 1) 4 [] (by simp) (by omega)
            have hdr : (nm :: k :: f :: g :: l).drop 4 = l := rfl
            rw [hdr] at i1 i2
            by_cases he : evenN l
            · have hn : numsL (f :: g :: l) = some ((f :: g :: l).map numV) := numsL_all (fun s hs => by
                rcases List.mem_cons.1 hs with rfl | hs
                · exact hf
                · rcases List.mem_cons.1 hs with rfl | hs
                  · exact hg
                  · exact he.2 s hs)
              rw [hn, if_pos (by rw [zonW, hX3]; exact i1.2 he)]
              show (if (l.map numV).length % 2 = 0 then _ else none) = _
              rw [if_pos (by rw [List.length_map]; exact he.1), zonV, hX3, i2 he, hx, if_pos hh, if_pos hh, htl]
              have v0 : vW (nm :: k :: f :: g :: l) (2, true) 0 = numV f := rfl
              have v1 : vW (nm :: k :: f :: g :: l) (2, true) 1 = numV g := by
                rw [vW_at (by simp)]
                show numV ((nm :: k :: f :: g :: l).getD (min (2 + 1) _) []) = _
                rw [Nat.min_eq_left (by simp)]; rfl
              rw [v0, v1]; rfl
            · rw [if_neg (by rw [zonW, hX3]; exact fun h => he (i1.1 h))]
              split
              · next f' g' l' h =>
                obtain ⟨h1, h2⟩ := numsL_some h
                rw [if_neg]
                intro h3
                have hl : l' = l.map numV := by simpa using (by simpa using h2 : f' = numV f ∧ g' = numV g ∧ l' = l.map numV).2.2
                refine he ⟨by rw [hl, List.length_map] at h3; exact h3, fun s hs => h1 s (by simp [hs])⟩
              · rfl
    · have hh : zonH (nm :: k :: r) (1, true) = false := by
        rw [zonH, hx]; rw [Bool.eq_false_iff]; intro h; exact hk (by simpa using h)
      rw [if_neg hk, bad (by rw [zonX, hh]; rfl)]; rfl
end Go.Proofs.YthndhipjfdgdfaaGreatDoor

namespace Go.Proofs.YthndhipjfdgdfaaGreatDoor
open Go.PK
/-! ### What a text that is read keeps (plain Lean) -/
theorem numT_i64 {s : Tx} {v : Int} (h : numT s = some v) : i64 v := ⟨(itoT_numT h).2.1, (itoT_numT h).2.2⟩
theorem numsL_bd : ∀ {w : List Tx} {l : List Int}, numsL w = some l → ∀ v ∈ l, i64 v
  | [], l, h => by cases h; simp
  | a :: r, l, h => by
    rw [numsL] at h
    split at h
    · next v m hv hm =>
      cases h
      intro x hx
      rcases List.mem_cons.1 hx with rfl | hx
      · exact numT_i64 hv
      · exact numsL_bd hm x hx
    · cases h
theorem keyT_len {s : Tx} {k : List B8} (h : keyT s = some k) : k.length = 32 := by
  unfold keyT at h
  split at h
  · rw [← Option.some.inj h]; simp [keyB]
  · cases h
theorem srcT_fit {w : List Tx} {s : Sr} (h : srcT w = some s) : s.Fit := by
  unfold srcT at h
  split at h
  · split at h
    · next hk =>
      split at h
      · split at h
        · next hn =>
          have hb := numsL_bd hn
          cases h
          exact ⟨keyT_len hk, hb _ (by simp), hb _ (by simp), hb _ (by simp)⟩
        · cases h
      · split at h
        · cases h
          have z : i64 0 := ⟨by decide, by decide⟩
          exact ⟨keyT_len hk, z, z, z⟩
        · cases h
    · cases h
  · cases h
theorem pairsL_len : ∀ l : List Int, (pairsL l).length ≤ l.length
  | [] => Nat.le_refl _
  | [_] => Nat.zero_le _
  | _ :: _ :: r => by have := pairsL_len r; simp [pairsL]; omega
theorem zonT_len {w : List Tx} {z : Zn} (h : zonT w = some z) : z.L.length ≤ w.length := by
  unfold zonT at h
  split at h
  · next k r =>
    split at h
    · split at h
      · next f g l hn =>
        split at h
        · cases h
          have h1 := pairsL_len l
          have h2 := congrArg List.length (numsL_some hn).2
          simp at h2 ⊢; omega
        · cases h
      · cases h
    · cases h
  · cases h
structure Inv (i : Nat) (P : Pl) : Prop where
  cm : P.cf.cm.length = 32
  L : ∀ s ∈ P.cf.L, s.Fit
  nl : P.cf.L.length ≤ i
  nz : P.zs.length ≤ i
  np : ∀ z ∈ P.zs, z.L.length ≤ 80000
theorem Inv.mono {i j : Nat} {P : Pl} (h : Inv i P) (hj : i ≤ j) : Inv j P := ⟨h.cm, h.L, Nat.le_trans h.nl hj, Nat.le_trans h.nz hj, h.np⟩
theorem oneT_keep {P q : Pl} {nm : Tx} {w : List Tx} (hc : P.cf.cm.length = 32) (h : oneT P nm w = some q) : q.cf.L = P.cf.L ∧ q.zs = P.zs ∧ q.cf.cm.length = 32 := by
  unfold oneT at h
  split at h
  · split at h <;> cases h; exact ⟨rfl, rfl, hc⟩
  split at h
  · split at h <;> cases h; exact ⟨rfl, rfl, hc⟩
  split at h
  · split at h <;> cases h; exact ⟨rfl, rfl, hc⟩
  split at h
  · split at h
    · split at h
      · next hk => cases h; exact ⟨rfl, rfl, keyT_len hk⟩
      · cases h
    · cases h
  split at h
  · split at h <;> cases h; exact ⟨rfl, rfl, hc⟩
  split at h
  · split at h <;> cases h; exact ⟨rfl, rfl, hc⟩
  split at h
  · split at h
    · split at h <;> cases h; exact ⟨rfl, rfl, hc⟩
    · cases h
  split at h
  · split at h <;> cases h; exact ⟨rfl, rfl, hc⟩
  split at h
  · split at h <;> cases h; exact ⟨rfl, rfl, hc⟩
  cases h
theorem lineT_inv {i : Nat} {P q : Pl} {nm : Tx} {w : List Tx} (hi : Inv i P) (hw : w.length ≤ 80000) (h : lineT P nm w = some q) : Inv (i + 1) q := by
  unfold lineT at h
  split at h
  · split at h
    · next s hs =>
      cases h
      refine ⟨hi.cm, fun x hx => ?_, ?_, Nat.le_trans hi.nz (Nat.le_succ _), hi.np⟩
      · rcases List.mem_append.1 hx with hx | hx
        · exact hi.L x hx
        · rw [List.mem_singleton.1 hx]; exact srcT_fit hs
      · have := hi.nl; simp; omega
    · cases h
  · split at h
    · split at h
      · next z hz =>
        cases h
        refine ⟨hi.cm, hi.L, Nat.le_trans hi.nl (Nat.le_succ _), ?_, fun x hx => ?_⟩
        · have := hi.nz; simp; omega
        · rcases List.mem_append.1 hx with hx | hx
          · exact hi.np x hx
          · rw [List.mem_singleton.1 hx]; exact Nat.le_trans (zonT_len hz) hw
      · cases h
    · obtain ⟨e1, e2, e3⟩ := oneT_keep hi.cm h
      exact ⟨e3, by rw [e1]; exact hi.L, by rw [e1]; exact Nat.le_trans hi.nl (Nat.le_succ _), by rw [e2]; exact Nat.le_trans hi.nz (Nat.le_succ _), by rw [e2]; exact hi.np⟩
theorem stepT_inv {i : Nat} {st st' : PS} {l : Tx} (hi : Inv i st.1) (hl : l.length ≤ 70000) (h : stepT st l = some st') : Inv (i + 1) st'.1 := by
  unfold stepT at h
  split at h
  · cases h
  · next nm w hs =>
    have hn := congrArg List.length hs
    rw [splL_len] at hn
    have := List.count_le_length (a := 32#8) (l := l)
    split at h
    · cases h
    · next q hq =>
      split at h
      · cases h
      · cases h
        exact lineT_inv hi (by simp at hn; omega) hq
theorem Inv.fit {i : Nat} {P : Pl} {ZL : List ZO} (h : Inv i P) (hi : i ≤ 1000000) (hz : ZL.map (·.1) = P.zs) : P.Fit ZL :=
  ⟨⟨h.cm, h.L⟩, hz, Nat.le_trans h.nl hi, Nat.le_trans h.nz hi, fun z hzm => by
    have := h.np z.1 (by rw [← hz]; exact List.mem_map_of_mem hzm)
    omega⟩
theorem inv0 : Inv 0 zeroPl := ⟨rfl, by simp [zeroPl], Nat.le_refl _, Nat.le_refl _, by simp [zeroPl]⟩
theorem nd_le {α : Type} [DecidableEq α] : ∀ {l m : List α}, l.Nodup → (∀ x ∈ l, x ∈ m) → l.length ≤ m.length
  | [], _, _, _ => Nat.zero_le _
  | a :: r, m, hn, hs => by
    have hn' := List.nodup_cons.1 hn
    have ha := hs a (List.mem_cons_self ..)
    have := nd_le (m := m.erase a) hn'.2 (fun x hx => (List.mem_erase_of_ne (by rintro rfl; exact hn'.1 hx)).2 (hs x (List.mem_cons_of_mem _ hx)))
    rw [List.length_erase_of_mem ha] at this
    have := List.length_pos_of_mem ha
    simp; omega
/-- Nine names that are all different, all there. -/
theorem mapS_nine {seen : List Tx} (hn : (seen.filter isNm).Nodup) : (mapS seen).length = 9 ↔ allT seen = true := by
  rw [mapS, List.length_map, allT, List.all_eq_true]
  have hsub : ∀ x ∈ seen.filter isNm, x ∈ nmL := fun x hx => by
    have := (List.mem_filter.1 hx).2
    simpa [isNm] using this
  constructor
  · intro h9 n hm
    simp only [decide_eq_true_eq]
    rcases Classical.em (n ∈ seen.filter isNm) with h | h
    · exact (List.mem_filter.1 h).1
    · exfalso
      have := nd_le (m := nmL.erase n) hn (fun x hx => (List.mem_erase_of_ne (by rintro rfl; exact h hx)).2 (hsub x hx))
      rw [List.length_erase_of_mem hm, h9] at this
      revert this; decide
  · intro ha
    have hs2 : ∀ x ∈ nmL, x ∈ seen.filter isNm := fun x hx => by
      have := ha x hx
      simp only [decide_eq_true_eq] at this
      exact List.mem_filter.2 ⟨this, by simpa [isNm] using hx⟩
    have h1 := nd_le hn hsub
    have h2 := nd_le (l := nmL) (by decide) hs2
    have : nmL.length = 9 := rfl
    omega
theorem stepT_nodup {st st' : PS} {l : Tx} (hn : (st.2.filter isNm).Nodup) (h : stepT st l = some st') : (st'.2.filter isNm).Nodup := by
  unfold stepT at h
  split at h
  · cases h
  · next nm w _ =>
    split at h
    · cases h
    · next q hq =>
      split at h
      · cases h
      · next hc =>
        cases h
        show ((st.2 ++ [nm]).filter isNm).Nodup
        rw [List.filter_append]
        by_cases hnm : isNm nm = true
        · rw [List.filter_cons_of_pos hnm]
          have h1 : nm ≠ nSource ∧ nm ≠ nZone := by
            constructor <;> (rintro rfl; revert hnm; decide)
          have h2 : nm ∉ st.2 := fun hm => hc ⟨h1.1, h1.2, hm⟩
          rw [List.nodup_append]
          refine ⟨hn, by simp, fun a ha b hb e => ?_⟩
          have hb' : b = nm := by simpa using hb
          subst hb'; subst e
          exact h2 (List.mem_filter.1 ha).1
        · rw [List.filter_cons_of_neg hnm]; simpa using hn
end Go.Proofs.YthndhipjfdgdfaaGreatDoor
