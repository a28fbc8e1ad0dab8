import Derived.Test.YtkkfdoippibfkaaGreatGD
namespace Go.Proofs.YtkkfdoippibfkaaGreat
open Go.PK

/-! ### What stays true of a guard whose sources' roots are 'root' -/
structure SInv (g : GSt) (s : Int) : Prop where
  k : ∀ o ∈ g.T, o.k = rootK (o.s : Int)
  m : ∀ s p, g.M s = some p → (∃ o, atO g.T s = some o ∧ p.1 ≤ o.e) ∧ p.1 < 4294967296 ∧ p.2 < 18446744073709551616
  h : (atO g.T s).isSome = true
  y : ∀ k : Int, 1 ≤ k → k ≤ 3 → g.Y s k = true
theorem roll_mem {T : List One} {s : Int} {e : Nat} {t g : Int} {o : One} (h : o ∈ rollT T s e t g) : ∃ x ∈ T, o.s = x.s ∧ o.k = x.k := by
  unfold rollT at h
  split at h
  · split at h
    · exact ⟨o, h, rfl, rfl⟩
    · split at h
      · exact ⟨o, h, rfl, rfl⟩
      · obtain ⟨x, hx, h1, h2, -⟩ := mem_setT h; exact ⟨x, hx, h1, h2⟩
  · exact ⟨o, h, rfl, rfl⟩
theorem raise_mem {T : List One} {s : Int} {e : Nat} {o : One} (h : o ∈ raiseT T s e) : ∃ x ∈ T, o.s = x.s ∧ o.k = x.k := by
  unfold raiseT at h
  split at h
  · split at h
    · exact ⟨o, h, rfl, rfl⟩
    · split at h
      · obtain ⟨x, hx, h1, h2, -⟩ := mem_setT h; exact ⟨x, hx, h1, h2⟩
      · exact ⟨o, h, rfl, rfl⟩
  · exact ⟨o, h, rfl, rfl⟩
theorem put_mem {T : List One} {s : Int} {k : List B8} {b : Nat} {o : One} (h : o ∈ putT T s k b) : o ∈ T ∨ ((o.s : Int) = s ∧ o.k = k) := by
  unfold putT at h
  split at h
  · next hm =>
    split at h
    · rcases List.mem_append.1 h with h | h
      · exact .inl h
      · rw [List.mem_singleton.1 h]
        simp [mayB] at hm
        exact .inr ⟨by show ((s.toNat : Nat) : Int) = s; omega, rfl⟩
    · exact .inl h
  · exact .inl h
theorem raise_at {T : List One} {s : Int} {e : Nat} (h : raiseE T s e = 0) : ∃ o, atO (raiseT T s e) s = some o ∧ e ≤ o.e := by
  unfold raiseE at h
  by_cases hm : mayB s = true
  · rw [if_pos hm] at h
    cases ho : atO T s with
    | none => rw [ho] at h; cases h
    | some o =>
      rw [ho] at h
      dsimp only at h
      by_cases h1 : e < o.e
      · rw [if_pos h1] at h; cases h
      · rw [raiseT, if_pos hm, ho]
        dsimp only
        by_cases h2 : o.e < e
        · rw [if_pos h2]
          have hos := (atO_mem ho).2
          rw [atO_set, ho]
          exact ⟨_, rfl, by dsimp only; rw [if_pos hos]; exact Nat.le_refl _⟩
        · rw [if_neg h2]; exact ⟨o, ho, by omega⟩
  · rw [if_neg hm] at h; cases h
theorem takeM_cases {M : Marks} {s s' : Int} {p q : Nat × Nat} (h : takeM M s p s' = some q) : M s' = some q ∨ (s' = s ∧ q = p) := by
  unfold takeM at h
  split at h
  · unfold updM at h
    split at h
    · next e => cases h; exact .inr ⟨e, rfl⟩
    · exact .inl h
  · exact .inl h
theorem key_at {T : List One} {s : Int} {e : Nat} {t : Int} (h : (keyM T s e t).2 = 0) : ∃ o, atO T s = some o ∧ e ≤ o.e := by
  unfold keyM at h
  split at h
  · split at h
    · cases h
    · next o ho =>
      split at h
      · next hg =>
        refine ⟨o, ho, ?_⟩
        simp [goesB, hasE] at hg
        omega
      · cases h
  · cases h
theorem SInv.rise {g g' : GSt} {s : Int} (h : SInv g s) (hk : ∀ o ∈ g'.T, o.k = rootK (o.s : Int)) (hr : Rise g.T g'.T) (hM : ∀ s' p, g'.M s' = some p → g.M s' = some p ∨ ((∃ o, atO g'.T s' = some o ∧ p.1 ≤ o.e) ∧ p.1 < 4294967296 ∧ p.2 < 18446744073709551616)) (hY : ∀ a b, g.Y a b = true → g'.Y a b = true) : SInv g' s := by
  refine ⟨hk, fun s' p hp => ?_, ?_, fun k h1 h2 => hY _ _ (h.y k h1 h2)⟩
  · rcases hM s' p hp with hp | hp
    · obtain ⟨⟨o, ho, h1⟩, h2⟩ := h.m s' p hp
      obtain ⟨o', ho', h3⟩ := hr s' o ho
      exact ⟨⟨o', ho', Nat.le_trans h1 h3⟩, h2⟩
    · exact hp
  · obtain ⟨o, ho⟩ := Option.isSome_iff_exists.1 h.h
    obtain ⟨o', ho', -⟩ := hr s o ho
    rw [ho']; rfl
theorem src_rise {g : GSt} {R : List One} (hA : Alike g.T R) (s : Int) {k : List B8} (hk : k.length = 32) (ks : List Int) (b : Nat) : Rise g.T (srcT g s k ks b) := by
  rw [srcT]
  split
  · exact Rise.refl _
  · exact (hA.putA s hk b).2.1
theorem src_mem {g : GSt} {s : Int} {k : List B8} {ks : List Int} {b : Nat} {o : One} (h : o ∈ srcT g s k ks b) : o ∈ g.T ∨ ((o.s : Int) = s ∧ o.k = k) := by
  unfold srcT at h
  split at h
  · exact .inl h
  · exact put_mem h
theorem src_y {g : GSt} {s : Int} {ks : List Int} {a b : Int} (h : g.Y a b = true) : srcY g s ks a b = true := by
  unfold srcY
  split
  · simp [addY, h]
  · exact h
theorem DoS.inv {B : GB} {Br : RB} {g g' : GSt} {r r' : RS} {a : Act19} {e k : Nat} {x x' s : Int} (ha : a.Ok) (he : e < 4294967296) (hA : Alike g.T r.R) (h : DoS B Br g r a e g' r' k x x') (hi : SInv g s) : SInv g' s := by
  cases h with
  | roll hT hl hM hY hD =>
    refine hi.rise ?_ (by rw [hT]; exact (hA.roll a.s he a.t a.g).2.1) (fun s' p hp => .inl (by rw [← hM]; exact hp)) (fun a b hh => by rw [hY]; exact hh)
    rw [hT]; intro o ho
    obtain ⟨y, hy, h1, h2⟩ := roll_mem ho
    rw [h1, h2]; exact hi.k y hy
  | raise hT hl hM hY hD =>
    refine hi.rise ?_ (by rw [hT]; exact (hA.raise a.s ha.m1).2.1) (fun s' p hp => ?_) (fun a b hh => by rw [hY]; exact hh)
    · rw [hT]; intro o ho
      obtain ⟨y, hy, h1, h2⟩ := raise_mem ho
      rw [h1, h2]; exact hi.k y hy
    · rw [hM, graM] at hp
      split at hp
      · next h0 =>
        rcases takeM_cases hp with hp | ⟨rfl, rfl⟩
        · exact .inl hp
        · rw [hT]; exact .inr ⟨raise_at h0, ha.m1, ha.m2⟩
      · exact .inl hp
  | src b hT hl hM hY hD =>
    refine hi.rise ?_ (by rw [hT]; exact src_rise hA a.s (rootK_len _) (k6 a) b) (fun s' p hp => .inl (by rw [← hM]; exact hp)) (fun c d hh => by rw [hY]; exact src_y hh)
    rw [hT]; intro o ho
    rcases src_mem ho with ho | ⟨h1, h2⟩
    · exact hi.k o ho
    · rw [h2, h1]
  | chk k hk hT hl hM hY hD =>
    refine hi.rise (by rw [hT]; exact hi.k) (by rw [hT]; exact Rise.refl _) (fun s' p hp => ?_) (fun a b hh => by rw [hY]; exact hh)
    rw [hM, lookM] at hp
    split at hp
    · split at hp
      · next h0 =>
        rcases takeM_cases hp with hp | ⟨rfl, rfl⟩
        · exact .inl hp
        · have hf := shF_ok ha
          refine .inr ⟨?_, hf.ep, hf.ct⟩
          rw [hT]
          by_cases hk0 : (keyM g.T (shF a).sr (shF a).ep a.t).2 = 0
          · exact key_at hk0
          · rw [tagE, if_neg hk0] at h0; exact absurd h0 hk0
      · exact .inl hp
    · exact .inl hp
theorem src0_inv {s : Int} (hs : mayB s = true) (b : Nat) (c' cy : List (Value × Value)) : SInv { g0 with T := srcT g0 s (rootK s) [1, 2, 3] b, c := c', Y := srcY g0 s [1, 2, 3], cy := cy } s := by
  have hc : ¬ (([1, 2, 3] : List Int) = [] ∨ ([1, 2, 3] : List Int).any oddG = true) := by simp [oddG]
  have hT : srcT g0 s (rootK s) [1, 2, 3] b = [⟨s.toNat, rootK s, 1, -1, b⟩] := by
    rw [srcT, if_neg hc, putT, if_pos hs]; rfl
  have hE : srcE g0 s [1, 2, 3] = 0 := by rw [srcE, if_neg hc, putE, if_pos hs]; rfl
  have hs' : ((s.toNat : Nat) : Int) = s := by simp [mayB] at hs; omega
  refine ⟨?_, ?_, ?_, ?_⟩
  · rw [hT]; intro o ho; rw [List.mem_singleton.1 ho]; show rootK s = rootK ((s.toNat : Nat) : Int); rw [hs']
  · intro s' p hp; cases hp
  · rw [hT]; simp [atO, hs']
  · intro k h1 h2
    show srcY g0 s [1, 2, 3] s k = true
    rw [srcY, if_pos hE]
    simp [addY]
    omega
/-- A frame that is signed right, and greater than its source's mark. -/
theorem takes_look {B : GB} {g : GSt} {s t : Int} {f : Fr} (hi : SInv g s) (hs : mayB s = true) (ht : tickB t = true) (h1 : f.sr = s) (h2 : 1 ≤ f.kd ∧ f.kd ≤ 3) (h3 : f.ep = epochM g.T s) (h4 : f.tag = macTag (deriveK (rootK s) epochL f.ep) f.signed) :
    (¬ kmay g.l s t = 0 → lookE g f t = kmay g.l s t) ∧ (kmay g.l s t = 0 → lookE g f t = mmay g.M s (fmark f) ∧ lookM g f t = takeM g.M s (fmark f) ∧ (mmay g.M s (fmark f) = 0 → lookL B g f t = goodL g.l s)) := by
  obtain ⟨o, ho⟩ := Option.isSome_iff_exists.1 hi.h
  obtain ⟨hoT, hos⟩ := atO_mem ho
  have he : epochM g.T s = o.e := by rw [epochM, if_pos hs, ho]
  have hK : keyM g.T s f.ep t = (deriveK (rootK s) epochL f.ep, 0) := by
    rw [keyM, if_pos ⟨ht, hs⟩, ho]
    dsimp only
    rw [if_pos (by simp [goesB, hasE, h3, he]), hi.k o hoT, hos]
  have hY : g.Y f.sr f.kd = true := by rw [h1]; exact hi.y _ h2.1 h2.2
  have hT : tagE g f t = 0 := by
    rw [tagE_lk, h1, hK, lkT, if_pos rfl, if_pos (by rw [h4]; simp)]
  rw [lookE, if_pos ht, if_pos hY, h1, if_pos hT]
  refine ⟨fun h => by rw [if_neg h], fun h => ?_⟩
  have hB : lookB g f t = true := by rw [lookB, ht, hY, h1]; simp [h]
  rw [if_pos h, lookM, if_pos hB, if_pos hT, h1, lookL, if_pos hB, if_pos hT, h1]
  exact ⟨rfl, rfl, fun h => by rw [if_pos h]⟩
theorem kmay_good {l : List Lk} {s t : Int} (hs : mayB s = true) (hl : l.length = 8) : kmay (goodL l s) s t = kmay l s t := by
  have h8 : s.toNat < l.length := by simp [mayB] at hs; omega
  have hx := List.getElem?_eq_getElem h8
  generalize l[s.toNat] = x at hx
  rw [goodL, if_pos hs, hx]
  dsimp only
  rw [kmay, kmay, hx, List.getElem?_set, if_pos rfl, if_pos h8]
theorem kmay_until {l : List Lk} {s t : Int} (hs : mayB s = true) (ht : tickB t = true) (hl : l.length = 8) : kmay l s t = if t < (lkAt l s).u then 180 else 0 := by
  have h8 : s.toNat < l.length := by simp [mayB] at hs; omega
  have hx := List.getElem?_eq_getElem h8
  rw [kmay, if_pos ⟨hs, ht⟩, lkAt, if_pos hs, hx]; rfl
theorem flat19 {L : List Act19} (hL : ∀ x ∈ L, x.Ok) : ∀ x ∈ L, (Act19.cells x).length = 32 := fun x hx => act19_len (hL x hx)
theorem act19_rdsN {I : List It} {L : List Act19} {a : Addr} {i : Nat} {x : Act19} (hL : ∀ x ∈ L, x.Ok) (hm : sls (some a) 32 L.length (L.flatMap Act19.cells) ∈ I) (hx : L[i]? = some x) : RdsN I (a.add (i * 32)) 32 x.cells :=
  ⟨fun _ => (Rds.sls hm).part (fun q u hu => by
    have hlt : q < 32 := by have := (List.getElem?_eq_some_iff.1 hu).1; rwa [act19_len (hL x (List.mem_of_getElem? hx))] at this
    rw [get_flat (flat19 hL) hx hlt]; exact hu), act19_len (hL x (List.mem_of_getElem? hx))⟩
theorem its19 {L : List Act19} {x : Act19} {J : List It} (hJ : ∀ y ∈ L.flatMap Act19.its, y ∈ J) (hx : x ∈ L) : ∀ y ∈ x.its, y ∈ J := fun y hy => hJ y (List.mem_flatMap.2 ⟨x, hx, hy⟩)
structure TG where
  i : Nat
  g : GSt
  r : RS
structure TG.ok (n : Nat) (s : Int) (z : TG) : Prop where
  i : z.i ≤ n
  g : GOk z.g
  a : Alike z.g.T z.r.R
  l : z.r.l.length = 8
  w : z.r.W.length ≤ 100 + 6 * z.i
  d : z.r.D.length ≤ z.i
  s : SInv z.g s
theorem DoS.lens {B : GB} {Br : RB} {g g' : GSt} {r r' : RS} {a : Act19} {e k : Nat} {x x' : Int} (h : DoS B Br g r a e g' r' k x x') : r'.l.length = r.l.length ∧ r'.W.length ≤ r.W.length + 6 ∧ r'.D.length ≤ r.D.length + 1 := by
  cases h with
  | roll _ _ _ _ _ _ hl _ hW hD => rw [hl, hW, hD]; omega
  | raise _ _ _ _ _ _ hl _ hW hD => rw [hl, hW, hD]; omega
  | src b _ _ _ _ _ _ hl _ hW hD =>
    rw [hl, hW, hD]
    refine ⟨rfl, ?_, by omega⟩
    unfold rsrcW
    split
    · rw [List.length_append, rts, List.length_map, List.length_take]; omega
    · omega
  | chk k hk _ _ _ _ _ _ hl _ hW hD =>
    rw [hl, hW, hD, lkL_len]
    exact ⟨rfl, by omega, bump_len _ _⟩
noncomputable def rActs19 : Rdr Tryz.prog 22 (Sl Act19) := rAct19.slice 32 (by kernel_rfl) (by kernel_rfl) (by kernel_rfl) (by decide) (List.flatMap Act19.cells) (fun _ => rfl)
end Go.Proofs.YtkkfdoippibfkaaGreat
