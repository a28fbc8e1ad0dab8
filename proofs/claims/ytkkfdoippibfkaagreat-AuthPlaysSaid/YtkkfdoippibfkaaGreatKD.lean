import Derived.Test.YtkkfdoippibfkaaGreatK16
namespace Go.Proofs.YtkkfdoippibfkaaGreat
open Go.PK

/-! ### Both rings know the same of each source -/
def sk (o : One) : List B8 × Nat × Int := (o.k, o.e, o.g)
structure Alike (T R : List One) : Prop where
  t : TOk T
  r : ROk R
  e : ∀ o ∈ R, o.e < 4294967296
  eq : ∀ s : Int, (atO R s).map sk = (atO T s).map sk
  up : R.Pairwise (fun a b => a.s < b.s)
  s8 : ∀ o ∈ R, o.s < 8
  g1 : ∀ o ∈ T, o.e = 1 → o.g = -1
theorem alike_nil : Alike [] [] := ⟨tok_nil, by simp [ROk], by simp, fun _ => rfl, .nil, by simp, by simp⟩
theorem up_len : ∀ {R : List One} {lo : Nat}, R.Pairwise (fun a b => a.s < b.s) → (∀ o ∈ R, o.s < 8) → (∀ o ∈ R, lo ≤ o.s) → lo ≤ 8 → R.length + lo ≤ 8
  | [], lo, _, _, _, h => by simpa using h
  | a :: R, lo, hp, h8, hl, _ => by
    obtain ⟨h1, h2⟩ := List.pairwise_cons.1 hp
    have ha := h8 a (by simp)
    have hla := hl a (by simp)
    have := up_len (R := R) (lo := a.s + 1) h2 (fun o ho => h8 o (by simp [ho])) (fun o ho => h1 o ho) (by omega)
    rw [List.length_cons]; omega
theorem Alike.len {T R : List One} (h : Alike T R) : R.length ≤ 8 := by
  have := up_len h.up h.s8 (fun _ _ => Nat.zero_le _) (by omega); omega
theorem Alike.non {T R : List One} (h : Alike T R) {s : Int} : atO R s = none ↔ atO T s = none := by
  have := h.eq s
  cases h1 : atO R s <;> cases h2 : atO T s <;> rw [h1, h2] at this <;> simp_all
theorem Alike.som {T R : List One} (h : Alike T R) {s : Int} {o : One} (ho : atO T s = some o) : ∃ p, atO R s = some p ∧ p.k = o.k ∧ p.e = o.e ∧ p.g = o.g := by
  have := h.eq s
  rw [ho] at this
  cases h1 : atO R s with
  | none => rw [h1] at this; cases this
  | some p => rw [h1] at this; simp [sk] at this; exact ⟨p, rfl, this.1, this.2.1, this.2.2⟩
theorem atO_set (T : List One) (s : Int) (e' : Nat) (g' : Int) (s' : Int) : atO (setT T s e' g') s' = (atO T s').map fun o => if (o.s : Int) = s then { o with e := e', g := g' } else o := by
  rw [atO, setT, List.find?_map, atO]
  congr 1
  congr 1
  funext o
  simp only [Function.comp]
  split <;> rfl
theorem up_apart {R : List One} (h : R.Pairwise (fun a b => a.s < b.s)) {A B : List One} {o : One} (hR : R = A ++ o :: B) : ∀ x ∈ A ++ B, x.s ≠ o.s := by
  subst hR
  rw [List.pairwise_append, List.pairwise_cons] at h
  obtain ⟨-, ⟨h2, -⟩, h3⟩ := h
  intro x hx e
  rcases List.mem_append.1 hx with hx | hx
  · have := h3 x hx o (by simp); omega
  · have := h2 x hx; omega
theorem setR_eq {R : List One} (hR : ROk R) (h : R.Pairwise (fun a b => a.s < b.s)) (s : Int) (e' : Nat) (g' : Int) (hs : (atO R s).isSome) : setR R s e' g' = setT R s e' g' := by
  rcases atN_spec R s with ⟨-, h2⟩ | ⟨i, o, h1, h2, h3⟩
  · rw [h2] at hs; cases hs
  · obtain ⟨A, B, hAB, hA, -⟩ := rcs_split hR h2
    have hos : (o.s : Int) = s := by simpa using List.find?_some h3
    rw [setR, h1, h3]
    dsimp only
    subst hAB
    rw [setT_mid hos (up_apart h rfl), ← hA]
    simp
theorem setT_map_s (R : List One) (s : Int) (e' : Nat) (g' : Int) : (setT R s e' g').map (·.s) = R.map (·.s) := by
  rw [setT, List.map_map]
  exact List.map_congr_left (fun x _ => by by_cases h : (x.s : Int) = s <;> simp [h])
theorem mem_setT {R : List One} {s : Int} {e' : Nat} {g' : Int} {o : One} (h : o ∈ setT R s e' g') : ∃ x ∈ R, o.s = x.s ∧ o.k = x.k ∧ (o.e = x.e ∨ o.e = e') := by
  obtain ⟨x, hx, rfl⟩ := List.mem_map.1 h
  refine ⟨x, hx, ?_⟩
  split <;> simp
theorem Alike.set {T R : List One} (h : Alike T R) (s : Int) {e' : Nat} {g' : Int} (h1 : 2 ≤ e') (h2 : e' < 4294967296) (h3 : -1 ≤ g') : Alike (setT T s e' g') (setT R s e' g') := by
  refine ⟨h.t.set s (by omega) h2 h3, ?_, ?_, ?_, ?_, ?_, ?_⟩
  · intro o ho
    obtain ⟨x, hx, -, hk, -⟩ := mem_setT ho
    rw [hk]; exact h.r x hx
  · intro o ho
    obtain ⟨x, hx, -, -, he | he⟩ := mem_setT ho
    · rw [he]; exact h.e x hx
    · omega
  · intro s'
    rw [atO_set, atO_set]
    by_cases hn : atO T s' = none
    · rw [h.non.2 hn, hn]
    · obtain ⟨o, ho⟩ := Option.ne_none_iff_exists'.1 hn
      obtain ⟨p, hp, hk, he, hg⟩ := h.som ho
      have hos : (o.s : Int) = s' := by simpa using List.find?_some ho
      have hps : (p.s : Int) = s' := by simpa using List.find?_some hp
      rw [hp, ho]
      simp only [Option.map_some, sk]
      rw [hos, hps]
      split <;> simp [hk, he, hg]
  · have : ((setT R s e' g').map (·.s)).Pairwise (· < ·) := by
      rw [setT_map_s]; exact List.pairwise_map.2 h.up
    exact List.pairwise_map.1 this
  · intro o ho
    obtain ⟨x, hx, hs, -⟩ := mem_setT ho
    rw [hs]; exact h.s8 x hx
  · intro o ho h1'
    obtain ⟨x, hx, rfl⟩ := List.mem_map.1 ho
    by_cases hs : (x.s : Int) = s
    · rw [if_pos hs] at h1'; dsimp only at h1'; omega
    · rw [if_neg hs] at h1' ⊢; exact h.g1 x hx h1'
/-- Epochs do not fall, and sources stay. -/
def Rise (T T' : List One) : Prop := ∀ s o, atO T s = some o → ∃ o', atO T' s = some o' ∧ o.e ≤ o'.e
theorem Rise.refl (T : List One) : Rise T T := fun _ o h => ⟨o, h, Nat.le_refl _⟩
theorem Rise.trans {T T' T'' : List One} (h : Rise T T') (h' : Rise T' T'') : Rise T T'' := fun s o ho => by
  obtain ⟨p, hp, h1⟩ := h s o ho
  obtain ⟨q, hq, h2⟩ := h' s p hp
  exact ⟨q, hq, Nat.le_trans h1 h2⟩
theorem Rise.set {T : List One} {s : Int} {o : One} (ho : atO T s = some o) {e' : Nat} (g' : Int) (h : o.e ≤ e') : Rise T (setT T s e' g') := fun s' p hp => by
  have hos : (o.s : Int) = s := by simpa using List.find?_some ho
  have hps : (p.s : Int) = s' := by simpa using List.find?_some hp
  rw [atO_set, hp]
  refine ⟨_, rfl, ?_⟩
  dsimp only
  split
  · next hs =>
    have : s' = s := by omega
    subst this
    rw [ho] at hp; cases hp
    exact h
  · exact Nat.le_refl _
theorem atO_app {T : List One} {s : Int} {o : One} (h : atO T (o.s : Int) = none) : atO (T ++ [o]) s = if s = (o.s : Int) then some o else atO T s := by
  have := atO_mid (A := T) (B := []) (o := o) (fun x hx e => by
    rw [List.append_nil] at hx
    have := List.find?_eq_none.1 h x hx
    simp [e] at this) s
  rw [List.append_nil] at this
  exact this
theorem take_ins (R : List One) (s : Int) : R.take (insP R s) = R.takeWhile fun o => decide ((o.s : Int) < s) := by
  have h := List.takeWhile_append_dropWhile (p := fun o : One => decide ((o.s : Int) < s)) (l := R)
  have : R.take (insP R s) = ((R.takeWhile fun o => decide ((o.s : Int) < s)) ++ (R.dropWhile fun o => decide ((o.s : Int) < s))).take (insP R s) := by rw [h]
  rw [this]; exact List.take_left' rfl
theorem drop_ins (R : List One) (s : Int) : R.drop (insP R s) = R.dropWhile fun o => decide ((o.s : Int) < s) := by
  have h := List.takeWhile_append_dropWhile (p := fun o : One => decide ((o.s : Int) < s)) (l := R)
  have : R.drop (insP R s) = ((R.takeWhile fun o => decide ((o.s : Int) < s)) ++ (R.dropWhile fun o => decide ((o.s : Int) < s))).drop (insP R s) := by rw [h]
  rw [this]; exact List.drop_left' rfl
theorem Alike.put {T R : List One} (h : Alike T R) {s : Int} (hm : mayB s = true) (hn : atO T s = none) {k : List B8} (hk : k.length = 32) (b : Nat) : Alike (T ++ [⟨s.toNat, k, 1, -1, b⟩]) (rputR R s k) ∧ Rise T (T ++ [⟨s.toNat, k, 1, -1, b⟩]) := by
  obtain ⟨n, rfl⟩ : ∃ n : Nat, s = (n : Int) := ⟨s.toNat, by simp [mayB] at hm; omega⟩
  have h8 : n < 8 := by simp [mayB] at hm; omega
  rw [Int.toNat_natCast]
  have hnR := h.non.2 hn
  have hneT : ∀ x ∈ T, x.s ≠ n := fun x hx e => by
    have := List.find?_eq_none.1 hn x hx; simp [e] at this
  have hneR : ∀ x ∈ R, x.s ≠ n := fun x hx e => by
    have := List.find?_eq_none.1 hnR x hx; simp [e] at this
  have hR : R.take (insP R n) ++ R.drop (insP R n) = R := List.take_append_drop _ _
  have hmR : ∀ x, x ∈ R.take (insP R n) ++ R.drop (insP R n) ↔ x ∈ R := fun x => by rw [hR]
  have hat : ∀ s', atO (rputR R n k) s' = if s' = (n : Int) then some ⟨n, k, 1, -1, 0⟩ else atO R s' := fun s' => by
    rw [rputR, Int.toNat_natCast, atO_mid (o := ⟨n, k, 1, -1, 0⟩) (fun x hx => hneR x ((hmR x).1 hx)), hR]
  have hmem : ∀ x, x ∈ rputR R n k → x = ⟨n, k, 1, -1, 0⟩ ∨ x ∈ R := fun x hx => by
    rw [rputR, Int.toNat_natCast] at hx
    simp only [List.mem_append, List.mem_cons] at hx
    rcases hx with hx | hx | hx
    · exact .inr (List.mem_of_mem_take hx)
    · exact .inl hx
    · exact .inr (List.mem_of_mem_drop hx)
  refine ⟨⟨?_, ?_, ?_, ?_, ?_, ?_, ?_⟩, ?_⟩
  · have hm' : ∀ {p : One → Prop}, (∀ o ∈ T, p o) → p ⟨n, k, 1, -1, b⟩ → ∀ o ∈ T ++ [⟨n, k, 1, -1, b⟩], p o := by
      intro p h1 h2 o ho
      rcases List.mem_append.1 ho with ho | ho
      · exact h1 o ho
      · rw [List.mem_singleton.1 ho]; exact h2
    refine ⟨hm' h.t.k hk, hm' h.t.e1 (Nat.le_refl _), hm' h.t.e2 (by show 1 < 4294967296; omega), hm' h.t.s h8, hm' h.t.g (by show (-1 : Int) ≤ -1; omega), ?_⟩
    rw [List.map_append, List.nodup_append]
    refine ⟨h.t.nd, by simp, fun a ha c hc e => ?_⟩
    obtain ⟨x, hx, rfl⟩ := List.mem_map.1 ha
    simp at hc
    exact hneT x hx (by omega)
  · intro o ho
    rcases hmem o ho with rfl | ho
    · exact hk
    · exact h.r o ho
  · intro o ho
    rcases hmem o ho with rfl | ho
    · show 1 < 4294967296; omega
    · exact h.e o ho
  · intro s'
    rw [hat, atO_app (o := ⟨n, k, 1, -1, b⟩) hn]
    by_cases hs : s' = (n : Int)
    · rw [if_pos hs, if_pos (show s' = (((⟨n, k, 1, -1, b⟩ : One).s : Nat) : Int) from hs)]; rfl
    · rw [if_neg hs, if_neg (show ¬ s' = (((⟨n, k, 1, -1, b⟩ : One).s : Nat) : Int) from hs)]; exact h.eq s'
  · rw [rputR, Int.toNat_natCast, take_ins, drop_ins]
    have hup := h.up
    rw [← List.takeWhile_append_dropWhile (p := fun o : One => decide ((o.s : Int) < (n : Int))) (l := R), List.pairwise_append] at hup
    obtain ⟨u1, u2, u3⟩ := hup
    have hlt : ∀ x ∈ R.takeWhile fun o => decide ((o.s : Int) < (n : Int)), x.s < n := fun x hx => by
      have := List.all_takeWhile (p := fun o : One => decide ((o.s : Int) < (n : Int))) (l := R)
      have := List.all_eq_true.1 this x hx
      simpa using this
    have hgt : ∀ x ∈ R.dropWhile fun o => decide ((o.s : Int) < (n : Int)), n < x.s := by
      cases hd : R.dropWhile fun o => decide ((o.s : Int) < (n : Int)) with
      | nil => simp
      | cons a l =>
        have ha := List.head?_dropWhile_not (fun o : One => decide ((o.s : Int) < (n : Int))) R
        rw [hd] at ha
        have ha : ¬ ((a.s : Int) < (n : Int)) := by simpa using ha
        have hane : a.s ≠ n := hneR a ((List.dropWhile_sublist (fun o : One => decide ((o.s : Int) < (n : Int)))).subset (by rw [hd]; simp))
        rw [hd] at u2
        intro x hx
        rcases List.mem_cons.1 hx with rfl | hx
        · omega
        · have := (List.pairwise_cons.1 u2).1 x hx; omega
    rw [List.pairwise_append, List.pairwise_cons]
    refine ⟨u1, ⟨fun x hx => hgt x hx, u2⟩, fun a ha c hc => ?_⟩
    rcases List.mem_cons.1 hc with rfl | hc
    · exact hlt a ha
    · exact u3 a ha c hc
  · intro o ho
    rcases hmem o ho with rfl | ho
    · exact h8
    · exact h.s8 o ho
  · intro o ho he
    rcases List.mem_append.1 ho with ho | ho
    · exact h.g1 o ho he
    · rw [List.mem_singleton.1 ho]
  · intro s' o ho
    refine ⟨o, ?_, Nat.le_refl _⟩
    rw [atO_app (o := ⟨n, k, 1, -1, b⟩) hn, if_neg (show ¬ s' = (((⟨n, k, 1, -1, b⟩ : One).s : Nat) : Int) from fun e => by
      have e : s' = (n : Int) := e
      rw [e, hn] at ho; cases ho)]
    exact ho
end Go.Proofs.YtkkfdoippibfkaaGreat

namespace Go.Proofs.YtkkfdoippibfkaaGreat
open Go.PK

theorem u32_back {n k : Nat} (h : n < 4294967296) (hk : k ≤ n) : IntKind.u32.wrap ((n : Int) - (k : Int)) = ((n - k : Nat) : Int) := by
  simp [IntKind.wrap, IntKind.bits, IntKind.signed]; omega
theorem may_of {T : List One} (h : TOk T) {s : Int} {o : One} (ho : atO T s = some o) : mayB s = true := by
  obtain ⟨hm, hs⟩ := atO_mem ho
  have := h.s o hm
  simp [mayB]; omega
theorem Alike.epoch {T R : List One} (h : Alike T R) (s : Int) : epochM T s = epochR R s := by
  rw [epochM, epochR]
  cases ho : atO T s with
  | none => rw [h.non.2 ho]; simp
  | some o =>
    obtain ⟨p, hp, -, he, -⟩ := h.som ho
    rw [if_pos (may_of h.t ho), hp]; exact he.symm
theorem Alike.raise {T R : List One} (h : Alike T R) (s : Int) {e' : Nat} (he : e' < 4294967296) : Alike (raiseT T s e') (rraiseR R s e') ∧ Rise T (raiseT T s e') ∧ raiseE T s e' = rraiseE R s e' := by
  rw [raiseT, rraiseR, raiseE, rraiseE]
  by_cases hm : mayB s = true
  · rw [if_pos hm, if_pos hm, if_pos hm, if_pos hm]
    cases ho : atO T s with
    | none => rw [h.non.2 ho]; exact ⟨h, Rise.refl _, rfl⟩
    | some o =>
      obtain ⟨p, hp, -, hpe, -⟩ := h.som ho
      rw [hp]
      dsimp only
      rw [hpe]
      by_cases h1 : o.e < e'
      · rw [if_pos h1, if_pos h1, setR_eq h.r h.up s e' (-1) (by rw [hp]; rfl)]
        have h0 := h.t.e1 o (atO_mem ho).1
        exact ⟨h.set s (by omega) he (by omega), Rise.set ho (-1) (by omega), rfl⟩
      · rw [if_neg h1, if_neg h1]; exact ⟨h, Rise.refl _, rfl⟩
  · rw [if_neg hm, if_neg hm, if_neg hm, if_neg hm]; exact ⟨h, Rise.refl _, rfl⟩
theorem Alike.roll {T R : List One} (h : Alike T R) (s : Int) {e' : Nat} (he : e' < 4294967296) (t g : Int) : Alike (rollT T s e' t g) (rrollR R s e' t g) ∧ Rise T (rollT T s e' t g) ∧ rollE T s e' t g = rrollE R s e' t g := by
  rw [rollT, rrollR, rollE, rrollE]
  by_cases hm : rightR t g = true ∧ mayB s = true
  · rw [if_pos hm, if_pos hm, if_pos hm, if_pos hm]
    cases ho : atO T s with
    | none => rw [h.non.2 ho]; exact ⟨h, Rise.refl _, rfl⟩
    | some o =>
      obtain ⟨p, hp, -, hpe, -⟩ := h.som ho
      rw [hp]
      dsimp only
      rw [hpe]
      by_cases h1 : o.e = 4294967295 ∨ e' ≠ o.e + 1
      · rw [if_pos h1, if_pos h1]; exact ⟨h, Rise.refl _, rfl⟩
      · rw [if_neg h1, if_neg h1, setR_eq h.r h.up s e' (t + g) (by rw [hp]; rfl)]
        obtain ⟨hm1, -⟩ := hm
        simp [rightR, tickB] at hm1
        have h0 := h.t.e1 o (atO_mem ho).1
        exact ⟨h.set s (by omega) he (by omega), Rise.set ho (t + g) (by omega), rfl⟩
  · rw [if_neg hm, if_neg hm, if_neg hm, if_neg hm]; exact ⟨h, Rise.refl _, rfl⟩
def rputA (R : List One) (s : Int) (k : List B8) : List One := if mayB s = true then (match atO R s with
  | none => rputR R s k
  | some _ => R) else R
def rputE (R : List One) (s : Int) : Int := if mayB s = true then (match atO R s with
  | none => 0
  | some _ => 6) else 2
theorem Alike.putA {T R : List One} (h : Alike T R) (s : Int) {k : List B8} (hk : k.length = 32) (b : Nat) : Alike (putT T s k b) (rputA R s k) ∧ Rise T (putT T s k b) ∧ putE T s = rputE R s := by
  rw [putT, rputA, putE, rputE]
  by_cases hm : mayB s = true
  · rw [if_pos hm, if_pos hm, if_pos hm, if_pos hm]
    cases ho : atO T s with
    | none =>
      rw [h.non.2 ho]
      obtain ⟨h1, h2⟩ := h.put hm ho hk b
      exact ⟨h1, h2, rfl⟩
    | some o =>
      obtain ⟨p, hp, -⟩ := h.som ho
      rw [hp]
      exact ⟨h, Rise.refl _, rfl⟩
  · rw [if_neg hm, if_neg hm, if_neg hm, if_neg hm]; exact ⟨h, Rise.refl _, rfl⟩
end Go.Proofs.YtkkfdoippibfkaaGreat
