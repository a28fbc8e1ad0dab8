import Derived.Test.YtkkfdoippibfkaaGreatGD
namespace Go.Proofs.YtkkfdoippibfkaaGreat
open Go.PK

/-! ### What stays true of a guard whose sources' roots are 'root' -/
structure SInv (g : GSt) (s : Int) : Prop where
  k : ∀ o ∈ g.T, o.k = rootK (o.s : Int)
  m : ∀ s p, g.M s = some p → (∃ o, atO g.T s = some o ∧ p.1 ≤ o.e) ∧ p.1 < 4294967296 ∧ p.2 < 18446744073709551616
  h : (atO g.T s).isSome = true
  y : ∀ k : Int, 1 ≤ k → k ≤ 3 → g.Y s k = true
theorem roll_mem {T : List One} {s : Int} {e : Nat} {t g : Int} {o : One} (h : o ∈ rollT T s e t g) : ∃ x ∈ T, o.s = x.s ∧ o.k = x.k := by
  unfold rollT at h
  split at h
  · split at h
    · exact ⟨o, h, rfl, rfl⟩
    · split at h
      · exact ⟨o, h, rfl, rfl⟩
      · obtain ⟨x, hx, h1, h2, -⟩ := mem_setT h; exact ⟨x, hx, h1, h2⟩
  · exact ⟨o, h, rfl, rfl⟩
theorem raise_mem {T : List One} {s : Int} {e : Nat} {o : One} (h : o ∈ raiseT T s e) : ∃ x ∈ T, o.s = x.s ∧ o.k = x.k := by
  unfold raiseT at h
  split at h
  · split at h
    · exact ⟨o, h, rfl, rfl⟩
    · split at h
      · obtain ⟨x, hx, h1, h2, -⟩ := mem_setT h; exact ⟨x, hx, h1, h2⟩
      · exact ⟨o, h, rfl, rfl⟩
  · exact ⟨o, h, rfl, rfl⟩
theorem put_mem {T : List One} {s : Int} {k : List B8} {b : Nat} {o : One} (h : o ∈ putT T s k b) : o ∈ T ∨ ((o.s : Int) = s ∧ o.k = k) := by
  unfold putT at h
  split at h
  · next hm =>
    split at h
    · rcases List.mem_append.1 h with h | h
      · exact .inl h
      · rw [List.mem_singleton.1 h]
        simp [mayB] at hm
        exact .inr ⟨by show ((s.toNat : Nat) : Int) = s; omega, rfl⟩
    · exact .inl h
  · exact .inl h
theorem raise_at {T : List One} {s : Int} {e : Nat} (h : raiseE T s e = 0) : ∃ o, atO (raiseT T s e) s = some o ∧ e ≤ o.e := by
  unfold raiseE at h
  by_cases hm : mayB s = true
  · rw [if_pos hm] at h
    cases ho : atO T s with
    | none => rw [ho] at h; cases h
    | some o =>
      rw [ho] at h
      dsimp only at h
      by_cases h1 : e < o.e
      · rw [if_pos h1] at h; cases h
      · rw [raiseT, if_pos hm, ho]
        dsimp only
        by_cases h2 : o.e < e
        · rw [if_pos h2]
          have hos := (atO_mem ho).2
          rw [atO_set, ho]
          exact ⟨_, rfl, by dsimp only; rw [if_pos hos]; exact Nat.le_refl _⟩
        · rw [if_neg h2]; exact ⟨o, ho, by omega⟩
  · rw [if_neg hm] at h; cases h
theorem takeM_cases {M : Marks} {s s' : Int} {p q : Nat × Nat} (h : takeM M s p s' = some q) : M s' = some q ∨ (s' = s ∧ q = p) := by
  unfold takeM at h
  split at h
  · unfold updM at h
    split at h
    · next e => cases h; exact .inr ⟨e, rfl⟩
    · exact .inl h
  · exact .inl h
theorem key_at {T : List One} {s : Int} {e : Nat} {t : Int} (h : (keyM T s e t).2 = 0) : ∃ o, atO T s = some o ∧ e ≤ o.e := by
  unfold keyM at h
  split at h
  · split at h
    · cases h
    · next o ho =>
      split at h
      · next hg =>
        refine ⟨o, ho, ?_⟩
        simp [goesB, hasE] at hg
        omega
      · cases h
  · cases h
theorem SInv.rise {g g' : GSt} {s : Int} (h : SInv g s) (hk : ∀ o ∈ g'.T, o.k = rootK (o.s : Int)) (hr : Rise g.T g'.T) (hM : ∀ s' p, g'.M s' = some p → g.M s' = some p ∨ ((∃ o, atO g'.T s' = some o ∧ p.1 ≤ o.e) ∧ p.1 < 4294967296 ∧ p.2 < 18446744073709551616)) (hY : ∀ a b, g.Y a b = true → g'.Y a b = true) : SInv g' s := by
  refine ⟨hk, fun s' p hp => ?_, ?_, fun k h1 h2 => hY _ _ (h.y k h1 h2)⟩
  · rcases hM s' p hp with hp | hp
    · obtain ⟨⟨o, ho, h1⟩, h2⟩ := h.m s' p hp
      obtain ⟨o', ho', h3⟩ := hr s' o ho
      exact ⟨⟨o', ho', Nat.le_trans h1 h3⟩, h2⟩
    · exact hp
  · obtain ⟨o, ho⟩ := Option.isSome_iff_exists.1 h.h
    obtain ⟨o', ho', -⟩ := hr s o ho
    rw [ho']; rfl
theorem src_rise {g : GSt} {R : List One} (hA : Alike g.T R) (s : Int) {k : List B8} (hk : k.length = 32) (ks : List Int) (b : Nat) : Rise g.T (srcT g s k ks b) := by
  rw [srcT]
  split
  · exact Rise.refl _
  · exact (hA.putA s hk b).2.1
theorem src_mem {g : GSt} {s : Int} {k : List B8} {ks : List Int} {b : Nat} {o : One} (h : o ∈ srcT g s k ks b) : o ∈ g.T ∨ ((o.s : Int) = s ∧ o.k = k) := by
  unfold srcT at h
  split at h
  · exact .inl h
  · exact put_mem h
theorem src_y {g : GSt} {s : Int} {ks : List Int} {a b : Int} (h : g.Y a b = true) : srcY g s ks a b = true := by
  unfold srcY
  split
  · simp [addY, h]
  · exact h
theorem DoS.inv {B : GB} {Br : RB} {g g' : GSt} {r r' : RS} {a : Act19} {e k : Nat} {x x' s : Int} (ha : a.Ok) (he : e < 4294967296) (hA : Alike g.T r.R) (h : DoS B Br g r a e g' r' k x x') (hi : SInv g s) : SInv g' s := by
  cases h with
  | roll hT hl hM hY hD =>
    refine hi.rise ?_ (by rw [hT]; exact (hA.roll a.s he a.t a.g).2.1) (fun s' p hp => .inl (by rw [← hM]; exact hp)) (fun a b hh => by rw [hY]; exact hh)
    rw [hT]; intro o ho
    obtain ⟨y, hy, h1, h2⟩ := roll_mem ho
    rw [h1, h2]; exact hi.k y hy
  | raise hT hl hM hY hD =>
    refine hi.rise ?_ (by rw [hT]; exact (hA.raise a.s ha.m1).2.1) (fun s' p hp => ?_) (fun a b hh => by rw [hY]; exact hh)
    · rw [hT]; intro o ho
      obtain ⟨y, hy, h1, h2⟩ := raise_mem ho
      rw [h1, h2]; exact hi.k y hy
    · rw [hM, graM] at hp
      split at hp
      · next h0 =>
        rcases takeM_cases hp with hp | ⟨rfl, rfl⟩
        · exact .inl hp
        · rw [hT]; exact .inr ⟨raise_at h0, ha.m1, ha.m2⟩
      · exact .inl hp
  | src b hT hl hM hY hD =>
    refine hi.rise ?_ (by rw [hT]; exact src_rise hA a.s (rootK_len _) (k6 a) b) (fun s' p hp => .inl (by rw [← hM]; exact hp)) (fun c d hh => by rw [hY]; exact src_y hh)
    rw [hT]; intro o ho
    rcases src_mem ho with ho | ⟨h1, h2⟩
    · exact hi.k o ho
    · rw [h2, h1]
  | chk k hk hT hl hM hY hD =>
    refine hi.rise (by rw [hT]; exact hi.k) (by rw [hT]; exact Rise.refl _) (fun s' p hp => ?_) (fun a b hh => by rw [hY]; exact hh)
    rw [hM, lookM] at hp
    split at hp
    · split at hp
      · next h0 =>
        rcases takeM_cases hp with hp | ⟨rfl, rfl⟩
        · exact .inl hp
        · have hf := shF_ok ha
          refine .inr ⟨?_, hf.ep, hf.ct⟩
          rw [hT]
          by_cases hk0 : (keyM g.T (shF a).sr (shF a).ep a.t).2 = 0
          · exact key_at hk0
          · rw [tagE, if_neg hk0] at h0; exact absurd h0 hk0
      · exact .inl hp
    · exact .inl hp
theorem src0_inv {s : Int} (hs : mayB s = true) (b : Nat) (c' cy : List (Value × Value)) : SInv { g0 with T := srcT g0 s (rootK s) [1, 2, 3] b, c := c', Y := srcY g0 s [1, 2, 3], cy := cy } s := by
  have hc : ¬ (([1, 2, 3] : List Int) = [] ∨ ([1, 2, 3] : List Int).any oddG = true) := by simp [oddG]
  have hT : srcT g0 s (rootK s) [1, 2, 3] b = [⟨s.toNat, rootK s, 1, -1, b⟩] := by
    rw [srcT, if_neg hc, putT, if_pos hs]; rfl
  have hE : srcE g0 s [1, 2, 3] = 0 := by rw [srcE, if_neg hc, putE, if_pos hs]; rfl
  have hs' : ((s.toNat : Nat) : Int) = s := by simp [mayB] at hs; omega
  refine ⟨?_, ?_, ?_, ?_⟩
  · rw [hT]; intro o ho; rw [List.mem_singleton.1 ho]; show rootK s = rootK ((s.toNat : Nat) : Int); rw [hs']
  · intro s' p hp; cases hp
  · rw [hT]; simp [atO, hs']
  · intro k h1 h2
    show srcY g0 s [1, 2, 3] s k = true
    rw [srcY, if_pos hE]
    simp [addY]
    omega
/-- A frame that is signed right, and greater than its source's mark. -/
theorem takes_look {B : GB} {g : GSt} {s t : Int} {f : Fr} (hi : SInv g s) (hs : mayB s = true) (ht : tickB t = true) (h1 : f.sr = s) (h2 : 1 ≤ f.kd ∧ f.kd ≤ 3) (h3 : f.ep = epochM g.T s) (h4 : f.tag = macTag (deriveK (rootK s) epochL f.ep) f.signed) :
    (¬ kmay g.l s t = 0 → lookE g f t = kmay g.l s t) ∧ (kmay g.l s t = 0 → lookE g f t = mmay g.M s (fmark f) ∧ lookM g f t = takeM g.M s (fmark f) ∧ (mmay g.M s (fmark f) = 0 → lookL B g f t = goodL g.l s)) := by
  obtain ⟨o, ho⟩ := Option.isSome_iff_exists.1 hi.h
  obtain ⟨hoT, hos⟩ := atO_mem ho
  have he : epochM g.T s = o.e := by rw [epochM, if_pos hs, ho]
  have hK : keyM g.T s f.ep t = (deriveK (rootK s) epochL f.ep, 0) := by
    rw [keyM, if_pos ⟨ht, hs⟩, ho]
    dsimp only
    rw [if_pos (by simp [goesB, hasE, h3, he]), hi.k o hoT, hos]
  have hY : g.Y f.sr f.kd = true := by rw [h1]; exact hi.y _ h2.1 h2.2
  have hT : tagE g f t = 0 := by
    rw [tagE_lk, h1, hK, lkT, if_pos rfl, if_pos (by rw [h4]; simp)]
  rw [lookE, if_pos ht, if_pos hY, h1, if_pos hT]
  refine ⟨fun h => by rw [if_neg h], fun h => ?_⟩
  have hB : lookB g f t = true := by rw [lookB, ht, hY, h1]; simp [h]
  rw [if_pos h, lookM, if_pos hB, if_pos hT, h1, lookL, if_pos hB, if_pos hT, h1]
  exact ⟨rfl, rfl, fun h => by rw [if_pos h]⟩
theorem kmay_good {l : List Lk} {s t : Int} (hs : mayB s = true) (hl : l.length = 8) : kmay (goodL l s) s t = kmay l s t := by
  have h8 : s.toNat < l.length := by simp [mayB] at hs; omega
  have hx := List.getElem?_eq_getElem h8
  generalize l[s.toNat] = x at hx
  rw [goodL, if_pos hs, hx]
  dsimp only
  rw [kmay, kmay, hx, List.getElem?_set, if_pos rfl, if_pos h8]
theorem kmay_until {l : List Lk} {s t : Int} (hs : mayB s = true) (ht : tickB t = true) (hl : l.length = 8) : kmay l s t = if t < (lkAt l s).u then 180 else 0 := by
  have h8 : s.toNat < l.length := by simp [mayB] at hs; omega
  have hx := List.getElem?_eq_getElem h8
  rw [kmay, if_pos ⟨hs, ht⟩, lkAt, if_pos hs, hx]; rfl
end Go.Proofs.YtkkfdoippibfkaaGreat

namespace Go.Proofs.YtkkfdoippibfkaaGreat
open Go.PK

/-! ### AuthTakes -/
theorem flat19 {L : List Act19} (hL : ∀ x ∈ L, x.Ok) : ∀ x ∈ L, (Act19.cells x).length = 32 := fun x hx => act19_len (hL x hx)
theorem act19_rdsN {I : List It} {L : List Act19} {a : Addr} {i : Nat} {x : Act19} (hL : ∀ x ∈ L, x.Ok) (hm : sls (some a) 32 L.length (L.flatMap Act19.cells) ∈ I) (hx : L[i]? = some x) : RdsN I (a.add (i * 32)) 32 x.cells :=
  ⟨fun _ => (Rds.sls hm).part (fun q u hu => by
    have hlt : q < 32 := by have := (List.getElem?_eq_some_iff.1 hu).1; rwa [act19_len (hL x (List.mem_of_getElem? hx))] at this
    rw [get_flat (flat19 hL) hx hlt]; exact hu), act19_len (hL x (List.mem_of_getElem? hx))⟩
theorem its19 {L : List Act19} {x : Act19} {J : List It} (hJ : ∀ y ∈ L.flatMap Act19.its, y ∈ J) (hx : x ∈ L) : ∀ y ∈ x.its, y ∈ J := fun y hy => hJ y (List.mem_flatMap.2 ⟨x, hx, hy⟩)
structure TG where
  i : Nat
  g : GSt
  r : RS
structure TG.ok (n : Nat) (s : Int) (z : TG) : Prop where
  i : z.i ≤ n
  g : GOk z.g
  a : Alike z.g.T z.r.R
  l : z.r.l.length = 8
  w : z.r.W.length ≤ 100 + 6 * z.i
  d : z.r.D.length ≤ z.i
  s : SInv z.g s
theorem DoS.lens {B : GB} {Br : RB} {g g' : GSt} {r r' : RS} {a : Act19} {e k : Nat} {x x' : Int} (h : DoS B Br g r a e g' r' k x x') : r'.l.length = r.l.length ∧ r'.W.length ≤ r.W.length + 6 ∧ r'.D.length ≤ r.D.length + 1 := by
  cases h with
  | roll _ _ _ _ _ _ hl _ hW hD => rw [hl, hW, hD]; omega
  | raise _ _ _ _ _ _ hl _ hW hD => rw [hl, hW, hD]; omega
  | src b _ _ _ _ _ _ hl _ hW hD =>
    rw [hl, hW, hD]
    refine ⟨rfl, ?_, by omega⟩
    unfold rsrcW
    split
    · rw [List.length_append, rts, List.length_map, List.length_take]; omega
    · omega
  | chk k hk _ _ _ _ _ _ hl _ hW hD =>
    rw [hl, hW, hD, lkL_len]
    exact ⟨rfl, by omega, bump_len _ _⟩
theorem g1_ok {s : Int} {b : Nat} {c' cy : List (Value × Value)} (hc : KOk (srcT g0 s (rootK s) [1, 2, 3] b) c') (hy : YRel cy (srcY g0 s [1, 2, 3])) : GOk { g0 with T := srcT g0 s (rootK s) [1, 2, 3] b, c := c', Y := srcY g0 s [1, 2, 3], cy := cy } ∧ Alike (srcT g0 s (rootK s) [1, 2, 3] b) (rsrcR rs0.R s (rootK s) [1, 2, 3]) := by
  have hq := (Alike.src (g := g0) (R := rs0.R) alike_nil s (rootK_len s) [1, 2, 3] b).1
  exact ⟨⟨hq.t, hc, rfl, g0_ok.m, hy, g0_ok.d⟩, hq⟩
theorem w1_len (s : Int) : (rsrcW rs0.R rs0.W s [1, 2, 3]).length ≤ 100 := by
  unfold rsrcW
  split
  · simp [rs0, rts]
  · simp [rs0]
theorem gt_of {M : Marks} {s : Int} {p : Nat × Nat} (h1 : (M s).isSome = true → (lastV M s).1 ≤ p.1) (h2 : (M s).isSome = true → (lastV M s).1 = p.1 → (lastV M s).2 < p.2) : (!(M s).isSome || gtB p (lastV M s)) = true := by
  cases h : (M s).isSome with
  | false => rfl
  | true =>
    have q1 := h1 h
    have q2 := h2 h
    by_cases e : p.1 = (lastV M s).1
    · simp [gtB, e]; exact q2 e.symm
    · simp [gtB, e]; omega
theorem SInv.take {g : GSt} {s : Int} (h : SInv g s) {p : Nat × Nat} (hp : (∃ o, atO g.T s = some o ∧ p.1 ≤ o.e) ∧ p.1 < 4294967296 ∧ p.2 < 18446744073709551616) (l : List Lk) (cm : List (Value × Value)) (D : Int → Int) (ct : List (Value × Value)) : SInv { g with l := l, M := takeM g.M s p, cm := cm, D := D, ct := ct } s :=
  h.rise h.k (Rise.refl _) (fun s' q hq => by
    rcases takeM_cases hq with hq | ⟨rfl, rfl⟩
    · exact .inl hq
    · exact .inr hp) (fun _ _ h => h)
theorem mmay_again {M : Marks} {s : Int} {p : Nat × Nat} (hm : mayB s = true) (h : mmay M s p = 0) : mmay (takeM M s p) s p = 170 := by
  have : takeM M s p s = some p := by rw [takeM, if_pos h, updM, if_pos rfl]
  rw [mmay, if_pos hm, this]
  simp [gtB]
theorem w64 {n : Int} (h0 : 0 ≤ n) (h1 : n < 18446744073709551616) : IntKind.u64.wrap n = n := by
  simp [IntKind.wrap, IntKind.bits, IntKind.signed]; omega
theorem tmod19 (a b : Nat) : (((a % b : Nat) : Nat) : Int) = (a : Int).tmod (b : Int) := by rw [Int.tmod_eq_emod_of_nonneg (by omega)]; omega
theorem atakes (p : Option Addr) (n : Nat) (L : List Act19) (most time source tick : Int) (x : FrA) (by' : Nat) (hL : ∀ x ∈ L, x.Ok) (hc : L.length ≤ n) (hx : x.Ok) (hby : by' < 18446744073709551616) :
    Spc Tryz.prog 4 #[.int .i64 most, .int .i64 time, .slice p L.length n, .agg (x.f.cells x.sl).toArray, .int .i64 source, .int .u64 (by' : Int), .int .i64 tick] (sls p 32 L.length (L.flatMap Act19.cells) :: sls x.p 1 x.f.b.length (bytes x.f.b) :: L.flatMap Act19.its) [] (Is (.bool true)) := by
  have hm0 := amongN_lt (x := most) (n := 9) (by decide)
  have ht0 := amongN_lt (x := time) (n := 50) (by decide)
  have hs0 := amongN_lt (x := source) (n := 8) (by decide)
  have hk0 := amongN_lt (x := tick) (n := 1000) (by decide)
  have hfl := fr_len hx.f.tag x.sl
  generalize hJ : (sls p 32 L.length (L.flatMap Act19.cells) :: sls x.p 1 x.f.b.length (bytes x.f.b) :: L.flatMap Act19.its) = J
  have m1 : sls p 32 L.length (L.flatMap Act19.cells) ∈ J := by rw [← hJ]; exact List.Mem.head _
  have m2 : sls x.p 1 x.f.b.length (bytes x.f.b) ∈ J := by rw [← hJ]; exact List.Mem.tail _ (List.Mem.head _)
  have m3 : ∀ y ∈ L.flatMap Act19.its, y ∈ J := fun y hy => by rw [← hJ]; exact List.Mem.tail _ (List.Mem.tail _ hy)
  clear hJ
  refine Spc.enter Tryz.func4 rfl rfl rfl (fun w0 hw0 => ?_)
  refine CW.seq ?_
  refine CW.region (ef := [0]) (bk := []) ?_
  refine RL.box rfl rfl rfl rfl rfl rfl ?_
  intro b1
  refine RL.assign rfl rfl rfl rfl ?_
  refine RL.nil ?_
  refine NQ.seq ?_
  refine CW.seq ?_
  refine CW.seq ?_
  refine CW.region (ef := []) (bk := []) ?_
  refine RL.callvq (works19) Tryz.call6 rfl rfl rfl rfl ?_
  refine RL.not rfl rfl rfl rfl ?_
  refine RL.nil ?_
  refine NQ.seq ?_
  refine CW.condF rfl ((by simp)) ?_
  refine CW.skip ?_
  refine NQ.seq ?_
  refine CW.seq ?_
  refine CW.region (ef := [6]) (bk := [6]) ?_
  refine RL.move rfl rfl rfl rfl ?_
  refine RL.callvq (among_any most 9 (by omega) (by omega)) Tryz.call8 rfl rfl rfl rfl ?_
  refine RL.binX rfl rfl rfl rfl rfl rfl (wrapV_i64 (by omega) (by omega)) ?_
  refine RL.move rfl rfl rfl rfl ?_
  refine RL.callvq (among_any time 50 (by omega) (by omega)) Tryz.call8 rfl rfl rfl rfl ?_
  refine RL.binX rfl rfl rfl rfl rfl rfl (wrapV_i64 (by omega) (by omega)) ?_
  refine RL.callq (gnew_yes (1 + (amongN most 9 : Int)) (1 + (amongN time 50 : Int)) (by omega) (by omega) (by omega) (by omega)) Tryz.call7 rfl rfl rfl rfl rfl (.inr rfl) ?_
  rintro _ _ _ ⟨B, hmo', hti', rfl, rfl, rfl⟩
  have hmo : B.mo ≠ 0 := by rw [hmo']; omega
  refine RL.move rfl rfl rfl rfl ?_
  refine RL.extract rfl rfl rfl rfl rfl ?_
  refine RL.extract rfl rfl rfl rfl rfl ?_
  refine RL.assign rfl rfl rfl rfl ?_
  refine RL.assign rfl rfl rfl rfl ?_
  refine RL.nil ?_
  refine NQ.seq ?_
  refine CW.only (.cons (k := 0) rfl (.cons (k := 1) rfl (.cons (k := 2) rfl (.cons (k := 4) rfl (.cons (k := 5) rfl (.cons (k := 6) rfl (.cons (k := 10) rfl (.cons (k := 15) rfl .nil)))))))) ?_
  refine CW.seq ?_
  refine CW.region (ef := [6]) (bk := [6]) ?_
  refine RL.move rfl rfl rfl rfl ?_
  refine RL.callvq (among_any most 9 (by omega) (by omega)) Tryz.call8 rfl rfl rfl rfl ?_
  refine RL.binX rfl rfl rfl rfl rfl rfl (wrapV_i64 (by omega) (by omega)) ?_
  refine RL.move rfl rfl rfl rfl ?_
  refine RL.callvq (among_any time 50 (by omega) (by omega)) Tryz.call8 rfl rfl rfl rfl ?_
  refine RL.binX rfl rfl rfl rfl rfl rfl (wrapV_i64 (by omega) (by omega)) ?_
  refine RL.callq (rgnew_yes (1 + (amongN most 9 : Int)) (1 + (amongN time 50 : Int)) (by omega) (by omega) (by omega) (by omega)) Tryz.call9 rfl rfl rfl rfl rfl (.inr rfl) ?_
  rintro _ _ _ ⟨Br, hrm, hrt, rfl, rfl, rfl⟩
  refine RL.move rfl rfl rfl rfl ?_
  refine RL.extract rfl rfl rfl rfl rfl ?_
  refine RL.extract rfl rfl rfl rfl rfl ?_
  refine RL.assign rfl rfl rfl rfl ?_
  refine RL.assign rfl rfl rfl rfl ?_
  refine RL.nil ?_
  refine NQ.seq ?_
  refine CW.only (.cons (k := 2) rfl (.cons (k := 4) rfl (.cons (k := 5) rfl (.cons (k := 6) rfl (.cons (k := 10) rfl (.cons (k := 15) rfl (.cons (k := 17) rfl .nil))))))) ?_
  refine CW.seq ?_
  refine CW.region (ef := []) (bk := []) ?_
  refine RL.move rfl rfl rfl rfl ?_
  refine RL.callvq (among_any source 8 (by omega) (by omega)) Tryz.call8 rfl rfl rfl rfl ?_
  refine RL.move rfl rfl rfl rfl ?_
  refine RL.callvq (among_any tick 1000 (by omega) (by omega)) Tryz.call8 rfl rfl rfl rfl ?_
  refine RL.assign rfl rfl rfl rfl ?_
  refine RL.assign rfl rfl rfl rfl ?_
  refine RL.nil ?_
  refine NQ.seq ?_
  refine CW.seq ?_
  have hmay : mayB ((amongN source 8 : Nat) : Int) = true := by simp [mayB]; omega
  have htk : tickB ((amongN tick 1000 : Nat) : Int) = true := by simp [tickB]; omega
  generalize amongN source 8 = s at *
  generalize amongN tick 1000 = t at *
  refine CW.region (ef := [4, 5]) (bk := [5]) ?_
  refine RL.move rfl rfl rfl rfl ?_
  refine RL.move rfl rfl rfl rfl ?_
  refine RL.move rfl rfl rfl rfl ?_
  refine RL.callvq (root_any (s : Int)) Tryz.call17 rfl rfl rfl rfl ?_
  refine RL.buildSlice [_, _, _] Tryz.runUnderlying41 Tryz.sizeOf3 Tryz.zeroValue3 rfl rfl (by decide) (by decide) rfl rfl rfl rfl rfl rfl ?_
  intro b2
  refine RL.call (gsource_any B g0 (s : Int) (rootK (s : Int)) (some ⟨b2, 0, none⟩) 3 3 [1, 2, 3] g0_ok (rootK_len _) rfl (by decide)) Tryz.call16 rfl rfl rfl rfl rfl (by repeat (first | exact Pick.nil | apply Pick.take | apply Pick.leave)) (Lend.all (by repeat (first | exact List.Mem.head _ | apply List.Mem.tail)) rfl .nil) (.inr rfl) ?_
  rintro _ _ _ ⟨rfl, rfl, bk, c', cy', hc', hcy', rfl⟩
  refine RL.nil ?_
  refine NQ.seq ?_
  refine CW.only (.cons (k := 2) rfl (.cons (k := 4) rfl (.cons (k := 5) rfl (.cons (k := 6) rfl (.cons (k := 10) rfl (.cons (k := 15) rfl (.cons (k := 17) rfl .nil))))))) ?_
  refine CW.seq ?_
  refine CW.region (ef := [4, 5]) (bk := [5]) ?_
  refine RL.move rfl rfl rfl rfl ?_
  refine RL.move rfl rfl rfl rfl ?_
  refine RL.move rfl rfl rfl rfl ?_
  refine RL.callvq (root_any (s : Int)) Tryz.call17 rfl rfl rfl rfl ?_
  refine RL.buildSlice [_, _, _] Tryz.runUnderlying41 Tryz.sizeOf3 Tryz.zeroValue3 rfl rfl (by decide) (by decide) rfl rfl rfl rfl rfl rfl ?_
  intro b3
  refine RL.call (rgsource_any Br rs0 (s : Int) (rootK (s : Int)) (some ⟨b3, 0, none⟩) 3 3 [1, 2, 3] rs0_ok (rootK_len _) rfl (by decide)) Tryz.call18 rfl rfl rfl rfl rfl (by repeat (first | exact Pick.nil | apply Pick.take | apply Pick.leave)) (Lend.all (by repeat (first | exact List.Mem.head _ | apply List.Mem.tail)) rfl .nil) (.inr rfl) ?_
  rintro _ _ _ ⟨rfl, rfl, ob', cp', ow', cw', rfl⟩
  refine RL.nil ?_
  refine NQ.seq ?_
  refine CW.only (.cons (k := 2) rfl (.cons (k := 4) rfl (.cons (k := 5) rfl (.cons (k := 6) rfl (.cons (k := 10) rfl (.cons (k := 15) rfl (.cons (k := 17) rfl .nil))))))) ?_
  refine CW.seq ?_
  refine CW.seq ?_
  refine CW.region (ef := []) (bk := []) ?_
  refine RL.assign rfl rfl rfl rfl ?_
  refine RL.nil ?_
  refine NQ.seq ?_
  refine CW.block ?_
  obtain ⟨hg1, hA1⟩ := g1_ok hc' hcy'
  have hi1 := src0_inv (s := (s : Int)) hmay bk c' cy'
  have hA2 : Alike ({ g0 with T := srcT g0 (s : Int) (rootK (s : Int)) [1, 2, 3] bk, c := c', Y := srcY g0 (s : Int) [1, 2, 3], cy := cy' } : GSt).T (rsrcR rs0.R (s : Int) (rootK (s : Int)) [1, 2, 3]) := hA1
  clear hA1 hc' hcy'
  generalize ({ g0 with T := srcT g0 (s : Int) (rootK (s : Int)) [1, 2, 3] bk, c := c', Y := srcY g0 (s : Int) [1, 2, 3], cy := cy' } : GSt) = g1 at *
  refine CW.loop (γ := TG) (TG.ok L.length (s : Int)) (fun z => [(2, .slice p L.length n), (4, .int .i64 (s : Int)), (5, .int .u64 (by' : Int)), (6, .int .i64 (t : Int)), (10, .pointer (some ⟨b1, 0, none⟩)), (15, .pointer (some ⟨B.gb, 0, none⟩)), (17, .pointer (some ⟨Br.yb, 0, none⟩)), (19, .int .i64 (z.i : Int))])
    (fun _ => J) (fun z => cel b1 (x.f.cells x.sl) 38 :: GRI B z.g Br z.r) (fun z => L.length - z.i) ⟨0, g1, { rs0 with R := rsrcR rs0.R (s : Int) (rootK (s : Int)) [1, 2, 3], W := rsrcW rs0.R rs0.W (s : Int) [1, 2, 3], ob := ob', cp := cp', ow := ow', cw := cw' }⟩
    ⟨Nat.zero_le _, hg1, hA2, rfl, by have := w1_len (s : Int); show (rsrcW rs0.R rs0.W (s : Int) [1, 2, 3]).length ≤ _; omega, Nat.le_refl _, hi1⟩
    (.cons rfl (.cons rfl (.cons rfl (.cons rfl (.cons rfl (.cons rfl (.cons rfl (.cons rfl .nil)))))))) (fun w h => h.rea (fun _ h => h) (by repeat (first | exact Rea.nil | (apply Rea.cons; (solve | (repeat (first | exact Del.here | apply Del.there))))))) ?_
  rintro ⟨i, g, r⟩ hz
  obtain ⟨hi, hg, hA, hl, hw, hd, hS⟩ := hz
  dsimp only at hi hg hA hl hw hd hS ⊢
  refine CW.fact (p := p = none → L.length = 0) (fun w hC e => sls_nil (hC.s.i _ m1) e) (fun hpa => ?_)
  refine CW.seq ?_
  refine CW.seq ?_
  refine CW.region (ef := []) (bk := []) ?_
  refine RL.move rfl rfl rfl rfl ?_
  refine RL.move rfl rfl rfl rfl ?_
  refine RL.lenS Tryz.runUnderlying22 rfl rfl rfl rfl ?_
  refine RL.bin rfl rfl rfl rfl rfl rfl ?_
  refine RL.move rfl rfl rfl rfl ?_
  apply RL.andB (d := 67) (dp := 70) (l' := (Sq.of [])) rfl (.cons (k := 2) rfl (.cons (k := 4) rfl (.cons (k := 5) rfl (.cons (k := 6) rfl (.cons (k := 10) rfl (.cons (k := 15) rfl (.cons (k := 17) rfl (.cons (k := 19) rfl .nil))))))))
  ·
    intro hb5 K5
    refine RL.move rfl rfl rfl rfl ?_
    refine RL.bin rfl rfl rfl rfl rfl rfl ?_
    refine RL.pickT rfl rfl rfl rfl rfl ?_
    exact K5 _ (.cons rfl (.cons (k := 2) rfl (.cons (k := 4) rfl (.cons (k := 5) rfl (.cons (k := 6) rfl (.cons (k := 10) rfl (.cons (k := 15) rfl (.cons (k := 17) rfl (.cons (k := 19) rfl .nil)))))))))
  ·
    intro hb5 K5
    refine RL.skip rfl rfl rfl rfl ?_
    refine RL.skip rfl rfl rfl rfl ?_
    refine RL.pickF rfl rfl rfl rfl rfl ?_
    exact K5 _ (.cons rfl (.cons (k := 2) rfl (.cons (k := 4) rfl (.cons (k := 5) rfl (.cons (k := 6) rfl (.cons (k := 10) rfl (.cons (k := 15) rfl (.cons (k := 17) rfl (.cons (k := 19) rfl .nil)))))))))
  refine RL.nil ?_
  refine NQ.seq ?_
  refine CW.cond rfl (fun hlt => ?_) (fun hlt => ?_)
  ·
    obtain ⟨hlt, hlt30⟩ : i < L.length ∧ i < 30 := by simp at hlt; omega
    cases p with
    | none => exact absurd (hpa rfl) (by omega)
    | some ad =>
    have hxa := List.getElem?_eq_getElem hlt
    generalize L[i] = a at hxa
    have hma := List.mem_of_getElem? hxa
    have w9 : RdsN J (ad.add (i * 32)) 32 a.cells := act19_rdsN hL m1 hxa
    refine CW.skip ?_
    refine NQ.seq ?_
    refine CW.seq ?_
    refine CW.block ?_
    refine CW.region (ef := [6]) (bk := [6]) ?_
    refine RL.move rfl rfl rfl rfl ?_
    refine RL.move rfl rfl rfl rfl ?_
    refine RL.move rfl rfl rfl rfl ?_
    refine RL.move rfl rfl rfl rfl ?_
    first | refine RL.idxAt (j := i) Tryz.runUnderlying22 Tryz.sizeOf43 rfl rfl rfl rfl rfl rfl (hlt) ?_ | refine RL.idx (j := i) Tryz.runUnderlying22 Tryz.sizeOf43 rfl rfl rfl rfl rfl rfl (hlt) ?_
    first | refine RL.loadM Tryz.isAgg43 Tryz.sizeOf43 rfl rfl rfl rfl (by assumption) ?_ | refine RL.loadA Tryz.isAgg43 Tryz.sizeOf43 rfl rfl rfl rfl (by first | assumption | (apply RdsI.rds; assumption)) (by first | rfl | assumption | (simp only [List.length_map]; assumption) | (simp only [List.length_map, List.length_replicate, hfl]; done) | (simp; done)) ?_ | refine RL.loadW Tryz.isAgg43 Tryz.sizeOf43 rfl rfl rfl rfl (by (solve | (repeat (first | exact List.Mem.head _ | apply List.Mem.tail)))) (by first | rfl | assumption | (simp only [List.length_map]; assumption) | (simp only [List.length_map, List.length_replicate, hfl]; done) | (simp; done)) ?_
    refine RL.call (do19_any B Br g r a (hL a hma) hmo hg hA hl (by omega) (by omega)) Tryz.call10 rfl rfl rfl rfl rfl (by repeat (first | exact Pick.nil | apply Pick.take | apply Pick.leave)) (Lend.many (its19 m3 hma)) (.inr rfl) ?_
    rintro _ _ _ ⟨e, g', r', x1, x2, he, rfl, rfl, rfl, hg', hA', hD⟩
    refine RL.nil ?_
    refine NQ.block ?_
    refine NQ.seq ?_
    refine CW.only (.cons (k := 2) rfl (.cons (k := 4) rfl (.cons (k := 5) rfl (.cons (k := 6) rfl (.cons (k := 10) rfl (.cons (k := 15) rfl (.cons (k := 17) rfl (.cons (k := 19) rfl .nil)))))))) ?_
    refine CW.region (ef := []) (bk := []) ?_
    refine RL.move rfl rfl rfl rfl ?_
    refine RL.binX rfl rfl rfl rfl rfl rfl (wrapV_i64 (by omega) (by omega)) ?_
    refine RL.assign rfl rfl rfl rfl ?_
    refine RL.nil ?_
    have hln := hD.lens
    refine NQ.round (γ := TG) (g := (⟨i, g, r⟩ : TG)) (⟨i + 1, g', r'⟩ : TG) ⟨hlt, hg', hA', by show r'.l.length = 8; omega, by show r'.W.length ≤ 100 + 6 * (i + 1); omega, by show r'.D.length ≤ i + 1; omega, hD.inv (hL a hma) he hA hS⟩ (by show L.length - (i + 1) < L.length - i; omega) (.cons rfl (.cons rfl (.cons rfl (.cons rfl (.cons rfl (.cons rfl (.cons rfl (.cons rfl .nil)))))))) (fun w h => h.rea (fun _ h => h) (by repeat (first | exact Rea.nil | (apply Rea.cons; (solve | (repeat (first | exact Del.here | apply Del.there)))))))
  · have hf2 := few_ok hx.f 60
    have hb2 : (x.f.few 60).b.length = min x.f.b.length 60 := by show (x.f.b.take 60).length = _; rw [List.length_take]; omega
    have hl2 : ∀ sl, ((x.f.few 60).cells sl).length = 21 := fun sl => fr_len hf2.tag sl
    have hk3 := amongN_lt (x := (x.f.few 60).kd) (n := 3) (by decide)
    refine CW.exit ?_
    refine XQ.seq ?_
    refine XQ.seq ?_
    refine XQ.hit ?_
    refine NQ.seq ?_
    refine CW.seq ?_
    refine CW.region (ef := [1, 2]) (bk := [2]) ?_
    first | refine RL.loadM Tryz.isAgg38 Tryz.sizeOf38 rfl rfl rfl rfl (by assumption) ?_ | refine RL.loadA Tryz.isAgg38 Tryz.sizeOf38 rfl rfl rfl rfl (by first | assumption | (apply RdsI.rds; assumption)) (by first | rfl | assumption | (simp only [List.length_map]; assumption) | (simp only [List.length_map, List.length_replicate, hfl]; done) | (simp; done)) ?_ | refine RL.loadW Tryz.isAgg38 Tryz.sizeOf38 rfl rfl rfl rfl (by (solve | (repeat (first | exact List.Mem.head _ | apply List.Mem.tail)))) (by first | rfl | assumption | (simp only [List.length_map]; assumption) | (simp only [List.length_map, List.length_replicate, hfl]; done) | (simp; done)) ?_
    refine RL.call (few19_any x.f x.p x.c x.f.b.length hx.f rfl hx.c hx.b) Tryz.call19 rfl rfl rfl rfl rfl (by repeat (first | exact Pick.nil | apply Pick.take | apply Pick.leave)) (.inI m2 .nil) (.inl rfl) ?_
    rintro _ _ _ ⟨ob1, cap1, rfl, rfl, rfl, ho1⟩
    refine RL.storeW (vs := (x.f.few 60).cells (slO ob1 (min x.f.b.length 60) cap1)) Tryz.sizeOf38 rfl rfl rfl rfl rfl rfl rfl (ones_fr _ rfl) (by repeat (first | exact Upd.here | apply Upd.there)) (hl2 _) hfl ?_
    refine RL.nil ?_
    refine NQ.seq ?_
    refine CW.only (.cons (k := 4) rfl (.cons (k := 5) rfl (.cons (k := 6) rfl (.cons (k := 10) rfl (.cons (k := 15) rfl .nil))))) ?_
    refine CW.seq ?_
    refine CW.region (ef := [6, 7]) (bk := [7]) ?_
    refine RL.move rfl rfl rfl rfl ?_
    refine RL.move rfl rfl rfl rfl ?_
    refine RL.callvq (gmark_any B g (s : Int) hg) Tryz.call11 rfl rfl rfl rfl ?_
    refine RL.move rfl rfl rfl rfl ?_
    refine RL.extract rfl rfl rfl rfl rfl ?_
    refine RL.extract rfl rfl rfl rfl rfl ?_
    refine RL.alloc Tryz.zeroValue40 rfl rfl rfl rfl rfl ?_
    intro b4
    refine RL.store (vs := [_, _]) Tryz.sizeOf40 rfl rfl rfl rfl rfl rfl rfl rfl rfl (by repeat (first | exact Upd.here | apply Upd.there)) ?_
    refine RL.assign rfl rfl rfl rfl ?_
    refine RL.nil ?_
    refine NQ.seq ?_
    refine CW.only (.cons (k := 4) rfl (.cons (k := 5) rfl (.cons (k := 6) rfl (.cons (k := 10) rfl (.cons (k := 15) rfl (.cons (k := 20) rfl (.cons (k := 21) rfl .nil))))))) ?_
    refine CW.seq ?_
    refine CW.region (ef := [9, 11, 13]) (bk := [9, 11, 13]) ?_
    first | refine RL.fieldAddr fa_38_0 rfl rfl rfl rfl ?_ | refine RL.fieldAddrG fa_38_0 rfl rfl rfl rfl ?_
    refine RL.loadq Tryz.isAgg3 rfl rfl rfl rfl ?_
    refine RL.callvq (among_any (x.f.few 60).kd 3 (by omega) (by omega)) Tryz.call8 rfl rfl rfl rfl ?_
    refine RL.binX rfl rfl rfl rfl rfl rfl (wrapV_i64 (by omega) (by omega)) ?_
    refine RL.move rfl rfl rfl rfl ?_
    refine RL.move rfl rfl rfl rfl ?_
    refine RL.move rfl rfl rfl rfl ?_
    refine RL.callvq (gepoch_any B g (s : Int) hg) Tryz.call12 rfl rfl rfl rfl ?_
    first | refine RL.fieldAddr fa_38_0 rfl rfl rfl rfl ?_ | refine RL.fieldAddrG fa_38_0 rfl rfl rfl rfl ?_
    refine RL.storeX (cs' := Fr.cells { x.f.few 60 with kd := 1 + (amongN (x.f.few 60).kd 3 : Int) } (slO ob1 (min x.f.b.length 60) cap1)) (vs := [_]) rfl Tryz.sizeOf3 rfl rfl rfl rfl rfl rfl rfl rfl (by repeat (first | exact Upd.here | apply Upd.there)) (by rw [hl2]; simp) ?_
    first | refine RL.fieldAddr fa_38_1 rfl rfl rfl rfl ?_ | refine RL.fieldAddrG fa_38_1 rfl rfl rfl rfl ?_
    refine RL.storeX (cs' := Fr.cells { x.f.few 60 with kd := 1 + (amongN (x.f.few 60).kd 3 : Int), sr := (s : Int) } (slO ob1 (min x.f.b.length 60) cap1)) (vs := [_]) rfl Tryz.sizeOf3 rfl rfl rfl rfl rfl rfl rfl rfl (by repeat (first | exact Upd.here | apply Upd.there)) (by rw [fr_len (by exact hf2.tag)]; simp) ?_
    first | refine RL.fieldAddr fa_38_2 rfl rfl rfl rfl ?_ | refine RL.fieldAddrG fa_38_2 rfl rfl rfl rfl ?_
    refine RL.storeX (cs' := Fr.cells { x.f.few 60 with kd := 1 + (amongN (x.f.few 60).kd 3 : Int), sr := (s : Int), ep := epochM g.T (s : Int) } (slO ob1 (min x.f.b.length 60) cap1)) (vs := [_]) rfl Tryz.sizeOf32 rfl rfl rfl rfl rfl rfl rfl rfl (by repeat (first | exact Upd.here | apply Upd.there)) (by rw [fr_len (by exact hf2.tag)]; simp) ?_
    refine RL.nil ?_
    refine NQ.seq ?_
    refine CW.only (.cons (k := 4) rfl (.cons (k := 5) rfl (.cons (k := 6) rfl (.cons (k := 10) rfl (.cons (k := 15) rfl (.cons (k := 20) rfl (.cons (k := 21) rfl .nil))))))) ?_
    refine CW.seq ?_
    refine CW.seq ?_
    refine CW.region (ef := []) (bk := []) ?_
    refine RL.move rfl rfl rfl rfl ?_
    refine RL.move rfl rfl rfl rfl ?_
    apply RL.andB (d := 100) (dp := 106) (l' := (Sq.of [])) rfl (.cons (k := 4) rfl (.cons (k := 5) rfl (.cons (k := 6) rfl (.cons (k := 10) rfl (.cons (k := 15) rfl (.cons (k := 20) rfl (.cons (k := 21) rfl .nil)))))))
    ·
      intro hb2 K2
      first | refine RL.fieldAddr fa_40_0 rfl rfl rfl rfl ?_ | refine RL.fieldAddrG fa_40_0 rfl rfl rfl rfl ?_
      refine RL.loadq Tryz.isAgg32 rfl rfl rfl rfl ?_
      first | refine RL.fieldAddr fa_38_2 rfl rfl rfl rfl ?_ | refine RL.fieldAddrG fa_38_2 rfl rfl rfl rfl ?_
      refine RL.loadq Tryz.isAgg32 rfl rfl rfl rfl ?_
      refine RL.bin rfl rfl rfl rfl rfl rfl ?_
      refine RL.pickT rfl rfl rfl rfl rfl ?_
      exact K2 _ (.cons rfl (.cons (k := 4) rfl (.cons (k := 5) rfl (.cons (k := 6) rfl (.cons (k := 10) rfl (.cons (k := 15) rfl (.cons (k := 20) rfl (.cons (k := 21) rfl .nil))))))))
    ·
      intro hb2 K2
      refine RL.skip rfl rfl rfl rfl ?_
      refine RL.skip rfl rfl rfl rfl ?_
      refine RL.skip rfl rfl rfl rfl ?_
      refine RL.skip rfl rfl rfl rfl ?_
      refine RL.skip rfl rfl rfl rfl ?_
      refine RL.pickF rfl rfl rfl rfl rfl ?_
      exact K2 _ (.cons rfl (.cons (k := 4) rfl (.cons (k := 5) rfl (.cons (k := 6) rfl (.cons (k := 10) rfl (.cons (k := 15) rfl (.cons (k := 20) rfl (.cons (k := 21) rfl .nil))))))))
    refine RL.nil ?_
    refine NQ.seq ?_
    have hsm : (g.M (s : Int)).isSome = true → g.M (s : Int) = some (lastV g.M (s : Int)) := fun h => by
      obtain ⟨q, hq⟩ := Option.isSome_iff_exists.1 h
      rw [lastV, hq]; rfl
    have hle : (g.M (s : Int)).isSome = true → (lastV g.M (s : Int)).1 ≤ epochM g.T (s : Int) ∧ (lastV g.M (s : Int)).1 < 4294967296 ∧ (lastV g.M (s : Int)).2 < 18446744073709551616 := fun h => by
      obtain ⟨⟨o, ho, h1⟩, h2⟩ := hS.m _ _ (hsm h)
      exact ⟨by rw [epochM, if_pos hmay, ho]; exact h1, h2⟩
    have hel : epochM g.T (s : Int) < 4294967296 := by
      obtain ⟨o, ho⟩ := Option.isSome_iff_exists.1 hS.h
      rw [epochM, if_pos hmay, ho]; exact hg.t.e2 o (atO_mem ho).1
    refine CW.cond rfl (fun hq => ?_) (fun hq => ?_)
    ·
      refine CW.seq ?_
      refine CW.seq ?_
      refine CW.region (ef := []) (bk := []) ?_
      first | refine RL.fieldAddr fa_40_1 rfl rfl rfl rfl ?_ | refine RL.fieldAddrG fa_40_1 rfl rfl rfl rfl ?_
      refine RL.loadq Tryz.isAgg33 rfl rfl rfl rfl ?_
      refine RL.bin rfl rfl rfl rfl rfl rfl ?_
      refine RL.nil ?_
      refine NQ.seq ?_
      obtain ⟨hq1, hq2⟩ : (g.M (s : Int)).isSome = true ∧ (lastV g.M (s : Int)).1 = epochM g.T (s : Int) := by
        simp at hq; exact ⟨hq.1, by omega⟩
      obtain ⟨-, -, hq3⟩ := hle hq1
      refine CW.cond rfl (fun hcm => ?_) (fun hcm => ?_)
      ·
        refine CW.seq ?_
        refine CW.region (ef := []) (bk := []) ?_
        refine RL.assign rfl rfl rfl rfl ?_
        refine RL.nil ?_
        refine NQ.seq ?_
        refine CW.ret ?_
        refine RQ.seq ?_
        refine RQ.seq ?_
        exact RQ.post (res1 rfl rfl) (Split.none _) ⟨rfl, rfl, rfl⟩
      · have hxm : (lastV g.M (s : Int)).2 < 18446744073709551615 := by simp at hcm; omega
        have hMs := hsm hq1
        generalize hlq : lastV g.M (s : Int) = q at *
        have hR : by' % (18446744073709551615 - q.2) < 18446744073709551615 - q.2 := Nat.mod_lt _ (by omega)
        have w1 : IntKind.u64.wrap (18446744073709551615 - (q.2 : Int)) = ((18446744073709551615 - q.2 : Nat) : Int) := by rw [w64 (by omega) (by omega)]; omega
        have w2 : IntKind.u64.wrap (IntKind.u64.wrap ((q.2 : Int) + 1) + ((by' % (18446744073709551615 - q.2) : Nat) : Int)) = ((q.2 + 1 + by' % (18446744073709551615 - q.2) : Nat) : Int) := by
          rw [w64 (n := (q.2 : Int) + 1) (by omega) (by omega), w64 (by omega) (by omega)]; omega
        have hst : ∀ sl, spl (Fr.cells { x.f.few 60 with kd := 1 + (amongN (x.f.few 60).kd 3 : Int), sr := (s : Int), ep := epochM g.T (s : Int) } sl) (0 + 3) [.int .u64 (IntKind.u64.wrap (IntKind.u64.wrap ((q.2 : Int) + 1) + ((by' % (18446744073709551615 - q.2) : Nat) : Int)))] = Fr.cells { x.f.few 60 with kd := 1 + (amongN (x.f.few 60).kd 3 : Int), sr := (s : Int), ep := epochM g.T (s : Int), ct := q.2 + 1 + by' % (18446744073709551615 - q.2) } sl := fun sl => by rw [w2]; rfl
        refine CW.skip ?_
        refine NQ.seq ?_
        refine CW.regionD (Sq.of [0, 1, 2, 3, 4, 5, 6, 7, 8, 9, 10]) [10] [10] [0, 2, 3, 4, 6, 7, 8, 9] mixed (by kernel_rfl) ?_
        first | refine RL.fieldAddr fa_40_1 rfl rfl rfl rfl ?_ | refine RL.fieldAddrG fa_40_1 rfl rfl rfl rfl ?_
        refine RL.loadq Tryz.isAgg33 rfl rfl rfl rfl ?_
        refine RL.bin rfl rfl rfl rfl rfl rfl ?_
        refine RL.move rfl rfl rfl rfl ?_
        first | refine RL.fieldAddr fa_40_1 rfl rfl rfl rfl ?_ | refine RL.fieldAddrG fa_40_1 rfl rfl rfl rfl ?_
        refine RL.loadq Tryz.isAgg33 rfl rfl rfl rfl ?_
        refine RL.bin rfl rfl rfl rfl rfl rfl ?_
        refine RL.remX (v' := .int .u64 ((by' % (18446744073709551615 - q.2) : Nat) : Int)) rfl rfl rfl rfl rfl (by rw [w1]; omega) (by rw [w1, ← tmod19]) ?_
        refine RL.bin rfl rfl rfl rfl rfl rfl ?_
        first | refine RL.fieldAddr fa_38_3 rfl rfl rfl rfl ?_ | refine RL.fieldAddrG fa_38_3 rfl rfl rfl rfl ?_
        refine RL.storeX (vs := [_]) (hst _) Tryz.sizeOf33 rfl rfl rfl rfl rfl rfl rfl rfl (by repeat (first | exact Upd.here | apply Upd.there)) (by rw [fr_len (by exact hf2.tag)]; simp) ?_
        refine RL.nil ?_
        refine NQ.seq ?_
        refine CW.only (.cons (k := 4) rfl (.cons (k := 6) rfl (.cons (k := 10) rfl (.cons (k := 15) rfl (.cons (k := 20) rfl (.cons (k := 21) rfl .nil)))))) ?_
        refine CW.seq ?_
        refine CW.seq ?_
        have hs4 : ({ x.f.few 60 with kd := 1 + (amongN (x.f.few 60).kd 3 : Int), sr := (s : Int), ep := epochM g.T (s : Int), ct := q.2 + 1 + by' % (18446744073709551615 - q.2) } : Fr).sr = (s : Int) := rfl
        have hk4 : 1 ≤ ({ x.f.few 60 with kd := 1 + (amongN (x.f.few 60).kd 3 : Int), sr := (s : Int), ep := epochM g.T (s : Int), ct := q.2 + 1 + by' % (18446744073709551615 - q.2) } : Fr).kd ∧ ({ x.f.few 60 with kd := 1 + (amongN (x.f.few 60).kd 3 : Int), sr := (s : Int), ep := epochM g.T (s : Int), ct := q.2 + 1 + by' % (18446744073709551615 - q.2) } : Fr).kd ≤ 3 := ⟨by show 1 ≤ 1 + (amongN (x.f.few 60).kd 3 : Int); omega, by show 1 + (amongN (x.f.few 60).kd 3 : Int) ≤ 3; omega⟩
        have he4 : ({ x.f.few 60 with kd := 1 + (amongN (x.f.few 60).kd 3 : Int), sr := (s : Int), ep := epochM g.T (s : Int), ct := q.2 + 1 + by' % (18446744073709551615 - q.2) } : Fr).ep = epochM g.T (s : Int) := rfl
        have hf4 : ({ x.f.few 60 with kd := 1 + (amongN (x.f.few 60).kd 3 : Int), sr := (s : Int), ep := epochM g.T (s : Int), ct := q.2 + 1 + by' % (18446744073709551615 - q.2) } : Fr).Ok := ⟨hel, by first | exact hf2.ct | (show q.2 + 1 + by' % (18446744073709551615 - q.2) < 18446744073709551616; omega), hf2.tag⟩
        have hb4 : ({ x.f.few 60 with kd := 1 + (amongN (x.f.few 60).kd 3 : Int), sr := (s : Int), ep := epochM g.T (s : Int), ct := q.2 + 1 + by' % (18446744073709551615 - q.2) } : Fr).b = (x.f.few 60).b := rfl
        have hm4 : mmay g.M (s : Int) (fmark ({ x.f.few 60 with kd := 1 + (amongN (x.f.few 60).kd 3 : Int), sr := (s : Int), ep := epochM g.T (s : Int), ct := q.2 + 1 + by' % (18446744073709551615 - q.2) })) = 0 := by
          rw [take_gt hmay]
          simp [gtB, hlq, fmark, hq2]; omega
        generalize ({ x.f.few 60 with kd := 1 + (amongN (x.f.few 60).kd 3 : Int), sr := (s : Int), ep := epochM g.T (s : Int), ct := q.2 + 1 + by' % (18446744073709551615 - q.2) } : Fr) = f4 at *
        have hl4 : ∀ sl, (f4.cells sl).length = 21 := fun sl => fr_len hf4.tag sl
        have hn4 : f4.b.length = min x.f.b.length 60 := by rw [hb4]; exact hb2
        have hf5 : (f4.sign (rootK (s : Int))).Ok := Fr.sign_ok hf4 _
        have hl5 : ∀ sl, ((f4.sign (rootK (s : Int))).cells sl).length = 21 := fun sl => fr_len hf5.tag sl
        refine CW.region (ef := []) (bk := []) ?_
        refine RL.move rfl rfl rfl rfl ?_
        refine RL.move rfl rfl rfl rfl ?_
        apply RL.andB (d := 121) (dp := 127) (l' := (Sq.of [])) rfl (.cons (k := 4) rfl (.cons (k := 6) rfl (.cons (k := 10) rfl (.cons (k := 15) rfl .nil))))
        ·
          intro hb2 K2
          first | refine RL.fieldAddr fa_40_0 rfl rfl rfl rfl ?_ | refine RL.fieldAddrG fa_40_0 rfl rfl rfl rfl ?_
          refine RL.loadq Tryz.isAgg32 rfl rfl rfl rfl ?_
          first | refine RL.fieldAddr fa_38_2 rfl rfl rfl rfl ?_ | refine RL.fieldAddrG fa_38_2 rfl rfl rfl rfl ?_
          refine RL.loadq Tryz.isAgg32 rfl rfl rfl rfl ?_
          refine RL.bin rfl rfl rfl rfl rfl rfl ?_
          refine RL.pickT rfl rfl rfl rfl rfl ?_
          exact K2 _ (.cons rfl (.cons (k := 4) rfl (.cons (k := 6) rfl (.cons (k := 10) rfl (.cons (k := 15) rfl .nil)))))
        ·
          intro hb2 K2
          refine RL.skip rfl rfl rfl rfl ?_
          refine RL.skip rfl rfl rfl rfl ?_
          refine RL.skip rfl rfl rfl rfl ?_
          refine RL.skip rfl rfl rfl rfl ?_
          refine RL.skip rfl rfl rfl rfl ?_
          refine RL.pickF rfl rfl rfl rfl rfl ?_
          exact K2 _ (.cons rfl (.cons (k := 4) rfl (.cons (k := 6) rfl (.cons (k := 10) rfl (.cons (k := 15) rfl .nil)))))
        refine RL.nil ?_
        refine NQ.seq ?_
        refine CW.condF rfl ((by simp; intro; omega)) ?_
        refine CW.skip ?_
        refine NQ.seq ?_
        refine CW.seq ?_
        refine CW.regionD (Sq.of [0, 1, 2, 3, 4]) [4] [4] [0, 1] mixed (by kernel_rfl) ?_
        refine RL.move rfl rfl rfl rfl ?_
        refine RL.callTq (root_any (s : Int)) Tryz.call17 rfl rfl rfl rfl ?_
        first | refine RL.loadM Tryz.isAgg38 Tryz.sizeOf38 rfl rfl rfl rfl (by assumption) ?_ | refine RL.loadA Tryz.isAgg38 Tryz.sizeOf38 rfl rfl rfl rfl (by first | assumption | (apply RdsI.rds; assumption)) (by first | rfl | assumption | (simp only [List.length_map]; assumption) | (simp only [List.length_map, List.length_replicate, hl4, hl5]; done) | (simp; done)) ?_ | refine RL.loadW Tryz.isAgg38 Tryz.sizeOf38 rfl rfl rfl rfl (by (solve | (repeat (first | exact List.Mem.head _ | apply List.Mem.tail)))) (by first | rfl | assumption | (simp only [List.length_map]; assumption) | (simp only [List.length_map, List.length_replicate, hl4, hl5]; done) | (simp; done)) ?_
        refine RL.callv (sign_any f4 (rootK (s : Int)) (ob1.map fun b => ⟨b, 0, none⟩) cap1 (min x.f.b.length 60) (rootK_len _) hf4 hn4 (by omega)) Tryz.call20 rfl rfl rfl rfl (Lend.ownE (by repeat (first | exact List.Mem.head _ | apply List.Mem.tail)) rfl (by rw [hb4]) .nil) ?_
        refine RL.storeW (vs := (f4.sign (rootK (s : Int))).cells (slO ob1 (min x.f.b.length 60) cap1)) Tryz.sizeOf38 rfl rfl rfl rfl rfl rfl rfl (ones_fr _ rfl) (by repeat (first | exact Upd.here | apply Upd.there)) (hl5 _) (hl4 _) ?_
        refine RL.nil ?_
        refine NQ.seq ?_
        refine CW.seq ?_
        refine CW.region (ef := []) (bk := []) ?_
        refine RL.move rfl rfl rfl rfl ?_
        refine RL.move rfl rfl rfl rfl ?_
        refine RL.callvq (gfails_any B g (s : Int) hmo hg) Tryz.call21 rfl rfl rfl rfl ?_
        refine RL.move rfl rfl rfl rfl ?_
        refine RL.extract rfl rfl rfl rfl rfl ?_
        refine RL.extract rfl rfl rfl rfl rfl ?_
        refine RL.extract rfl rfl rfl rfl rfl ?_
        refine RL.assign rfl rfl rfl rfl ?_
        refine RL.assign rfl rfl rfl rfl ?_
        refine RL.assign rfl rfl rfl rfl ?_
        refine RL.nil ?_
        refine NQ.seq ?_
        refine CW.only (.cons (k := 6) rfl (.cons (k := 10) rfl (.cons (k := 15) rfl (.cons (k := 23) rfl .nil)))) ?_
        refine CW.seq ?_
        refine CW.seq ?_
        refine CW.region (ef := []) (bk := []) ?_
        refine RL.move rfl rfl rfl rfl ?_
        refine RL.move rfl rfl rfl rfl ?_
        refine RL.bin rfl rfl rfl rfl rfl rfl ?_
        refine RL.nil ?_
        refine NQ.seq ?_
        have hu := kmay_until (t := (t : Int)) hmay htk hg.l
        have hS5 := takes_look (B := B) (f := f4.sign (rootK (s : Int))) hS hmay htk hs4 hk4 he4 rfl
        have hm5 : mmay g.M (s : Int) (fmark (f4.sign (rootK (s : Int)))) = 0 := hm4
        have hs5 : (f4.sign (rootK (s : Int))).sr = (s : Int) := hs4
        have hk5 : 1 ≤ (f4.sign (rootK (s : Int))).kd ∧ (f4.sign (rootK (s : Int))).kd ≤ 3 := hk4
        have he5 : (f4.sign (rootK (s : Int))).ep = epochM g.T (s : Int) := he4
        have hn5 : (f4.sign (rootK (s : Int))).b.length = min x.f.b.length 60 := hn4
        have hb5 : (f4.sign (rootK (s : Int))).b = (x.f.few 60).b := hb4
        have ht5 : (f4.sign (rootK (s : Int))).tag = macTag (deriveK (rootK (s : Int)) epochL (f4.sign (rootK (s : Int))).ep) (f4.sign (rootK (s : Int))).signed := rfl
        generalize f4.sign (rootK (s : Int)) = f5 at *
        refine CW.cond rfl (fun htu => ?_) (fun htu => ?_)
        ·
          refine CW.seq ?_
          refine CW.region (ef := [3]) (bk := [3]) ?_
          refine RL.move rfl rfl rfl rfl ?_
          refine RL.move rfl rfl rfl rfl ?_
          first | refine RL.loadM Tryz.isAgg38 Tryz.sizeOf38 rfl rfl rfl rfl (by assumption) ?_ | refine RL.loadA Tryz.isAgg38 Tryz.sizeOf38 rfl rfl rfl rfl (by first | assumption | (apply RdsI.rds; assumption)) (by first | rfl | assumption | (simp only [List.length_map]; assumption) | (simp only [List.length_map, List.length_replicate, hl5]; done) | (simp; done)) ?_ | refine RL.loadW Tryz.isAgg38 Tryz.sizeOf38 rfl rfl rfl rfl (by (solve | (repeat (first | exact List.Mem.head _ | apply List.Mem.tail)))) (by first | rfl | assumption | (simp only [List.length_map]; assumption) | (simp only [List.length_map, List.length_replicate, hl5]; done) | (simp; done)) ?_
          refine RL.call (gcheck_any B g f5 (ob1.map fun b => ⟨b, 0, none⟩) cap1 (min x.f.b.length 60) (t : Int) hmo hg hf5 hn5 (by omega)) Tryz.call14 rfl rfl rfl rfl rfl (by repeat (first | exact Pick.nil | apply Pick.take | apply Pick.leave)) (Lend.ownE (by repeat (first | exact List.Mem.head _ | apply List.Mem.tail)) rfl (by rw [hb5]) .nil) (.inr rfl) ?_
          have hk : kmay g.l (s : Int) (t : Int) = 180 := by rw [hu, if_pos (by simpa using htu)]
          have e1 : lookE g f5 (t : Int) = 180 := by rw [hS5.1 (by rw [hk]; decide), hk]
          rintro _ _ _ ⟨rfl, rfl, cm2, ct2, hcm2, hct2, rfl⟩
          rw [e1]
          refine RL.bin rfl rfl rfl rfl rfl rfl ?_
          refine RL.assign rfl rfl rfl rfl ?_
          refine RL.nil ?_
          refine NQ.seq ?_
          refine CW.only (.cons (k := 6) rfl (.cons (k := 10) rfl (.cons (k := 14) rfl (.cons (k := 15) rfl .nil)))) ?_
          refine CW.ret ?_
          refine RQ.seq ?_
          exact RQ.post (res1 rfl rfl) (Split.none _) ⟨rfl, rfl, rfl⟩
        ·
          refine CW.skip ?_
          refine NQ.seq ?_
          refine CW.seq ?_
          refine CW.region (ef := [3, 9]) (bk := [3, 9]) ?_
          refine RL.move rfl rfl rfl rfl ?_
          refine RL.move rfl rfl rfl rfl ?_
          first | refine RL.loadM Tryz.isAgg38 Tryz.sizeOf38 rfl rfl rfl rfl (by assumption) ?_ | refine RL.loadA Tryz.isAgg38 Tryz.sizeOf38 rfl rfl rfl rfl (by first | assumption | (apply RdsI.rds; assumption)) (by first | rfl | assumption | (simp only [List.length_map]; assumption) | (simp only [List.length_map, List.length_replicate, hl5]; done) | (simp; done)) ?_ | refine RL.loadW Tryz.isAgg38 Tryz.sizeOf38 rfl rfl rfl rfl (by (solve | (repeat (first | exact List.Mem.head _ | apply List.Mem.tail)))) (by first | rfl | assumption | (simp only [List.length_map]; assumption) | (simp only [List.length_map, List.length_replicate, hl5]; done) | (simp; done)) ?_
          refine RL.call (gcheck_any B g f5 (ob1.map fun b => ⟨b, 0, none⟩) cap1 (min x.f.b.length 60) (t : Int) hmo hg hf5 hn5 (by omega)) Tryz.call14 rfl rfl rfl rfl rfl (by repeat (first | exact Pick.nil | apply Pick.take | apply Pick.leave)) (Lend.ownE (by repeat (first | exact List.Mem.head _ | apply List.Mem.tail)) rfl (by rw [hb5]) .nil) (.inr rfl) ?_
          have hk : kmay g.l (s : Int) (t : Int) = 0 := by rw [hu, if_neg (by simpa using htu)]
          obtain ⟨e1, e2, e3⟩ := hS5.2 hk
          have e3 := e3 hm5
          rw [hm5] at e1
          rintro _ _ _ ⟨rfl, rfl, cm2, ct2, hcm2, hct2, rfl⟩
          rw [e1] at hct2 ⊢
          rw [e2] at hcm2 ⊢
          rw [e3]
          have hp5 : (∃ o, atO g.T (s : Int) = some o ∧ (fmark f5).1 ≤ o.e) ∧ (fmark f5).1 < 4294967296 ∧ (fmark f5).2 < 18446744073709551616 := by
            obtain ⟨o, ho⟩ := Option.isSome_iff_exists.1 hS.h
            refine ⟨⟨o, ho, ?_⟩, hf5.ep, hf5.ct⟩
            show f5.ep ≤ o.e
            rw [he5, epochM, if_pos hmay, ho]; exact Nat.le_refl _
          have S2 := hS.take hp5 (goodL g.l (s : Int)) cm2 (chkD g.D 0) ct2
          have o2 : GOk ({ g with l := goodL g.l (s : Int), M := takeM g.M (s : Int) (fmark f5), cm := cm2, D := chkD g.D 0, ct := ct2 } : GSt) := ⟨hg.t, hg.k, by show (goodL g.l (s : Int)).length = 8; rw [goodL_len]; exact hg.l, hcm2, hg.y, hct2⟩
          have k2 : kmay ({ g with l := goodL g.l (s : Int), M := takeM g.M (s : Int) (fmark f5), cm := cm2, D := chkD g.D 0, ct := ct2 } : GSt).l (s : Int) (t : Int) = 0 := by rw [← hk]; exact kmay_good hmay hg.l
          have mm2 : mmay ({ g with l := goodL g.l (s : Int), M := takeM g.M (s : Int) (fmark f5), cm := cm2, D := chkD g.D 0, ct := ct2 } : GSt).M (s : Int) (fmark f5) = 170 := mmay_again hmay hm5
          have T2 : epochM ({ g with l := goodL g.l (s : Int), M := takeM g.M (s : Int) (fmark f5), cm := cm2, D := chkD g.D 0, ct := ct2 } : GSt).T (s : Int) = epochM g.T (s : Int) := rfl
          generalize ({ g with l := goodL g.l (s : Int), M := takeM g.M (s : Int) (fmark f5), cm := cm2, D := chkD g.D 0, ct := ct2 } : GSt) = g2 at *
          have q2 := ((takes_look (B := B) (f := f5) S2 hmay htk hs5 hk5 (by rw [T2]; exact he5) ht5).2 k2).1
          rw [mm2] at q2
          refine RL.bin rfl rfl rfl rfl rfl rfl ?_
          refine RL.move rfl rfl rfl rfl ?_
          refine RL.cast (d := 152) (v' := .bool true) rfl (rfl) ?_
          refine RL.move rfl rfl rfl rfl ?_
          refine RL.move rfl rfl rfl rfl ?_
          first | refine RL.loadM Tryz.isAgg38 Tryz.sizeOf38 rfl rfl rfl rfl (by assumption) ?_ | refine RL.loadA Tryz.isAgg38 Tryz.sizeOf38 rfl rfl rfl rfl (by first | assumption | (apply RdsI.rds; assumption)) (by first | rfl | assumption | (simp only [List.length_map]; assumption) | (simp only [List.length_map, List.length_replicate, hl5]; done) | (simp; done)) ?_ | refine RL.loadW Tryz.isAgg38 Tryz.sizeOf38 rfl rfl rfl rfl (by (solve | (repeat (first | exact List.Mem.head _ | apply List.Mem.tail)))) (by first | rfl | assumption | (simp only [List.length_map]; assumption) | (simp only [List.length_map, List.length_replicate, hl5]; done) | (simp; done)) ?_
          refine RL.call (gcheck_any B g2 f5 (ob1.map fun b => ⟨b, 0, none⟩) cap1 (min x.f.b.length 60) (t : Int) hmo o2 hf5 hn5 (by omega)) Tryz.call14 rfl rfl rfl rfl rfl (by repeat (first | exact Pick.nil | apply Pick.take | apply Pick.leave)) (Lend.ownE (by repeat (first | exact List.Mem.head _ | apply List.Mem.tail)) rfl (by rw [hb5]) .nil) (.inr rfl) ?_
          rintro _ _ _ ⟨rfl, rfl, cm3, ct3, -, -, rfl⟩
          rw [q2]
          refine RL.bin rfl rfl rfl rfl rfl rfl ?_
          refine RL.pickT rfl rfl rfl rfl rfl ?_
          refine RL.assign rfl rfl rfl rfl ?_
          refine RL.nil ?_
          refine NQ.seq ?_
          refine CW.only (.cons (k := 14) rfl .nil) ?_
          refine CW.ret ?_
          exact RQ.post (res1 rfl rfl) (Split.none _) ⟨rfl, rfl, rfl⟩
    ·
      refine CW.skip ?_
      refine NQ.seq ?_
      refine CW.seq ?_
      refine CW.seq ?_
      have hs4 : ({ x.f.few 60 with kd := 1 + (amongN (x.f.few 60).kd 3 : Int), sr := (s : Int), ep := epochM g.T (s : Int) } : Fr).sr = (s : Int) := rfl
      have hk4 : 1 ≤ ({ x.f.few 60 with kd := 1 + (amongN (x.f.few 60).kd 3 : Int), sr := (s : Int), ep := epochM g.T (s : Int) } : Fr).kd ∧ ({ x.f.few 60 with kd := 1 + (amongN (x.f.few 60).kd 3 : Int), sr := (s : Int), ep := epochM g.T (s : Int) } : Fr).kd ≤ 3 := ⟨by show 1 ≤ 1 + (amongN (x.f.few 60).kd 3 : Int); omega, by show 1 + (amongN (x.f.few 60).kd 3 : Int) ≤ 3; omega⟩
      have he4 : ({ x.f.few 60 with kd := 1 + (amongN (x.f.few 60).kd 3 : Int), sr := (s : Int), ep := epochM g.T (s : Int) } : Fr).ep = epochM g.T (s : Int) := rfl
      have hf4 : ({ x.f.few 60 with kd := 1 + (amongN (x.f.few 60).kd 3 : Int), sr := (s : Int), ep := epochM g.T (s : Int) } : Fr).Ok := ⟨hel, by first | exact hf2.ct | (show q.2 + 1 + by' % (18446744073709551615 - q.2) < 18446744073709551616; omega), hf2.tag⟩
      have hb4 : ({ x.f.few 60 with kd := 1 + (amongN (x.f.few 60).kd 3 : Int), sr := (s : Int), ep := epochM g.T (s : Int) } : Fr).b = (x.f.few 60).b := rfl
      have hm4 : mmay g.M (s : Int) (fmark ({ x.f.few 60 with kd := 1 + (amongN (x.f.few 60).kd 3 : Int), sr := (s : Int), ep := epochM g.T (s : Int) })) = 0 := by
        rw [take_gt hmay]
        exact gt_of (fun h => (hle h).1) (fun h e => by exfalso; rw [h] at hq; simp at hq; have e : (lastV g.M (s : Int)).1 = epochM g.T (s : Int) := e; omega)
      generalize ({ x.f.few 60 with kd := 1 + (amongN (x.f.few 60).kd 3 : Int), sr := (s : Int), ep := epochM g.T (s : Int) } : Fr) = f4 at *
      have hl4 : ∀ sl, (f4.cells sl).length = 21 := fun sl => fr_len hf4.tag sl
      have hn4 : f4.b.length = min x.f.b.length 60 := by rw [hb4]; exact hb2
      have hf5 : (f4.sign (rootK (s : Int))).Ok := Fr.sign_ok hf4 _
      have hl5 : ∀ sl, ((f4.sign (rootK (s : Int))).cells sl).length = 21 := fun sl => fr_len hf5.tag sl
      refine CW.region (ef := []) (bk := []) ?_
      refine RL.move rfl rfl rfl rfl ?_
      refine RL.move rfl rfl rfl rfl ?_
      apply RL.andB (d := 121) (dp := 127) (l' := (Sq.of [])) rfl (.cons (k := 4) rfl (.cons (k := 6) rfl (.cons (k := 10) rfl (.cons (k := 15) rfl .nil))))
      ·
        intro hb2 K2
        first | refine RL.fieldAddr fa_40_0 rfl rfl rfl rfl ?_ | refine RL.fieldAddrG fa_40_0 rfl rfl rfl rfl ?_
        refine RL.loadq Tryz.isAgg32 rfl rfl rfl rfl ?_
        first | refine RL.fieldAddr fa_38_2 rfl rfl rfl rfl ?_ | refine RL.fieldAddrG fa_38_2 rfl rfl rfl rfl ?_
        refine RL.loadq Tryz.isAgg32 rfl rfl rfl rfl ?_
        refine RL.bin rfl rfl rfl rfl rfl rfl ?_
        refine RL.pickT rfl rfl rfl rfl rfl ?_
        exact K2 _ (.cons rfl (.cons (k := 4) rfl (.cons (k := 6) rfl (.cons (k := 10) rfl (.cons (k := 15) rfl .nil)))))
      ·
        intro hb2 K2
        refine RL.skip rfl rfl rfl rfl ?_
        refine RL.skip rfl rfl rfl rfl ?_
        refine RL.skip rfl rfl rfl rfl ?_
        refine RL.skip rfl rfl rfl rfl ?_
        refine RL.skip rfl rfl rfl rfl ?_
        refine RL.pickF rfl rfl rfl rfl rfl ?_
        exact K2 _ (.cons rfl (.cons (k := 4) rfl (.cons (k := 6) rfl (.cons (k := 10) rfl (.cons (k := 15) rfl .nil)))))
      refine RL.nil ?_
      refine NQ.seq ?_
      refine CW.condF rfl ((by simp; intro h; have := (hle h).1; omega)) ?_
      refine CW.skip ?_
      refine NQ.seq ?_
      refine CW.seq ?_
      refine CW.regionD (Sq.of [0, 1, 2, 3, 4]) [4] [4] [0, 1] mixed (by kernel_rfl) ?_
      refine RL.move rfl rfl rfl rfl ?_
      refine RL.callTq (root_any (s : Int)) Tryz.call17 rfl rfl rfl rfl ?_
      first | refine RL.loadM Tryz.isAgg38 Tryz.sizeOf38 rfl rfl rfl rfl (by assumption) ?_ | refine RL.loadA Tryz.isAgg38 Tryz.sizeOf38 rfl rfl rfl rfl (by first | assumption | (apply RdsI.rds; assumption)) (by first | rfl | assumption | (simp only [List.length_map]; assumption) | (simp only [List.length_map, List.length_replicate, hl4, hl5]; done) | (simp; done)) ?_ | refine RL.loadW Tryz.isAgg38 Tryz.sizeOf38 rfl rfl rfl rfl (by (solve | (repeat (first | exact List.Mem.head _ | apply List.Mem.tail)))) (by first | rfl | assumption | (simp only [List.length_map]; assumption) | (simp only [List.length_map, List.length_replicate, hl4, hl5]; done) | (simp; done)) ?_
      refine RL.callv (sign_any f4 (rootK (s : Int)) (ob1.map fun b => ⟨b, 0, none⟩) cap1 (min x.f.b.length 60) (rootK_len _) hf4 hn4 (by omega)) Tryz.call20 rfl rfl rfl rfl (Lend.ownE (by repeat (first | exact List.Mem.head _ | apply List.Mem.tail)) rfl (by rw [hb4]) .nil) ?_
      refine RL.storeW (vs := (f4.sign (rootK (s : Int))).cells (slO ob1 (min x.f.b.length 60) cap1)) Tryz.sizeOf38 rfl rfl rfl rfl rfl rfl rfl (ones_fr _ rfl) (by repeat (first | exact Upd.here | apply Upd.there)) (hl5 _) (hl4 _) ?_
      refine RL.nil ?_
      refine NQ.seq ?_
      refine CW.seq ?_
      refine CW.region (ef := []) (bk := []) ?_
      refine RL.move rfl rfl rfl rfl ?_
      refine RL.move rfl rfl rfl rfl ?_
      refine RL.callvq (gfails_any B g (s : Int) hmo hg) Tryz.call21 rfl rfl rfl rfl ?_
      refine RL.move rfl rfl rfl rfl ?_
      refine RL.extract rfl rfl rfl rfl rfl ?_
      refine RL.extract rfl rfl rfl rfl rfl ?_
      refine RL.extract rfl rfl rfl rfl rfl ?_
      refine RL.assign rfl rfl rfl rfl ?_
      refine RL.assign rfl rfl rfl rfl ?_
      refine RL.assign rfl rfl rfl rfl ?_
      refine RL.nil ?_
      refine NQ.seq ?_
      refine CW.only (.cons (k := 6) rfl (.cons (k := 10) rfl (.cons (k := 15) rfl (.cons (k := 23) rfl .nil)))) ?_
      refine CW.seq ?_
      refine CW.seq ?_
      refine CW.region (ef := []) (bk := []) ?_
      refine RL.move rfl rfl rfl rfl ?_
      refine RL.move rfl rfl rfl rfl ?_
      refine RL.bin rfl rfl rfl rfl rfl rfl ?_
      refine RL.nil ?_
      refine NQ.seq ?_
      have hu := kmay_until (t := (t : Int)) hmay htk hg.l
      have hS5 := takes_look (B := B) (f := f4.sign (rootK (s : Int))) hS hmay htk hs4 hk4 he4 rfl
      have hm5 : mmay g.M (s : Int) (fmark (f4.sign (rootK (s : Int)))) = 0 := hm4
      have hs5 : (f4.sign (rootK (s : Int))).sr = (s : Int) := hs4
      have hk5 : 1 ≤ (f4.sign (rootK (s : Int))).kd ∧ (f4.sign (rootK (s : Int))).kd ≤ 3 := hk4
      have he5 : (f4.sign (rootK (s : Int))).ep = epochM g.T (s : Int) := he4
      have hn5 : (f4.sign (rootK (s : Int))).b.length = min x.f.b.length 60 := hn4
      have hb5 : (f4.sign (rootK (s : Int))).b = (x.f.few 60).b := hb4
      have ht5 : (f4.sign (rootK (s : Int))).tag = macTag (deriveK (rootK (s : Int)) epochL (f4.sign (rootK (s : Int))).ep) (f4.sign (rootK (s : Int))).signed := rfl
      generalize f4.sign (rootK (s : Int)) = f5 at *
      refine CW.cond rfl (fun htu => ?_) (fun htu => ?_)
      ·
        refine CW.seq ?_
        refine CW.region (ef := [3]) (bk := [3]) ?_
        refine RL.move rfl rfl rfl rfl ?_
        refine RL.move rfl rfl rfl rfl ?_
        first | refine RL.loadM Tryz.isAgg38 Tryz.sizeOf38 rfl rfl rfl rfl (by assumption) ?_ | refine RL.loadA Tryz.isAgg38 Tryz.sizeOf38 rfl rfl rfl rfl (by first | assumption | (apply RdsI.rds; assumption)) (by first | rfl | assumption | (simp only [List.length_map]; assumption) | (simp only [List.length_map, List.length_replicate, hl5]; done) | (simp; done)) ?_ | refine RL.loadW Tryz.isAgg38 Tryz.sizeOf38 rfl rfl rfl rfl (by (solve | (repeat (first | exact List.Mem.head _ | apply List.Mem.tail)))) (by first | rfl | assumption | (simp only [List.length_map]; assumption) | (simp only [List.length_map, List.length_replicate, hl5]; done) | (simp; done)) ?_
        refine RL.call (gcheck_any B g f5 (ob1.map fun b => ⟨b, 0, none⟩) cap1 (min x.f.b.length 60) (t : Int) hmo hg hf5 hn5 (by omega)) Tryz.call14 rfl rfl rfl rfl rfl (by repeat (first | exact Pick.nil | apply Pick.take | apply Pick.leave)) (Lend.ownE (by repeat (first | exact List.Mem.head _ | apply List.Mem.tail)) rfl (by rw [hb5]) .nil) (.inr rfl) ?_
        have hk : kmay g.l (s : Int) (t : Int) = 180 := by rw [hu, if_pos (by simpa using htu)]
        have e1 : lookE g f5 (t : Int) = 180 := by rw [hS5.1 (by rw [hk]; decide), hk]
        rintro _ _ _ ⟨rfl, rfl, cm2, ct2, hcm2, hct2, rfl⟩
        rw [e1]
        refine RL.bin rfl rfl rfl rfl rfl rfl ?_
        refine RL.assign rfl rfl rfl rfl ?_
        refine RL.nil ?_
        refine NQ.seq ?_
        refine CW.only (.cons (k := 6) rfl (.cons (k := 10) rfl (.cons (k := 14) rfl (.cons (k := 15) rfl .nil)))) ?_
        refine CW.ret ?_
        refine RQ.seq ?_
        exact RQ.post (res1 rfl rfl) (Split.none _) ⟨rfl, rfl, rfl⟩
      ·
        refine CW.skip ?_
        refine NQ.seq ?_
        refine CW.seq ?_
        refine CW.region (ef := [3, 9]) (bk := [3, 9]) ?_
        refine RL.move rfl rfl rfl rfl ?_
        refine RL.move rfl rfl rfl rfl ?_
        first | refine RL.loadM Tryz.isAgg38 Tryz.sizeOf38 rfl rfl rfl rfl (by assumption) ?_ | refine RL.loadA Tryz.isAgg38 Tryz.sizeOf38 rfl rfl rfl rfl (by first | assumption | (apply RdsI.rds; assumption)) (by first | rfl | assumption | (simp only [List.length_map]; assumption) | (simp only [List.length_map, List.length_replicate, hl5]; done) | (simp; done)) ?_ | refine RL.loadW Tryz.isAgg38 Tryz.sizeOf38 rfl rfl rfl rfl (by (solve | (repeat (first | exact List.Mem.head _ | apply List.Mem.tail)))) (by first | rfl | assumption | (simp only [List.length_map]; assumption) | (simp only [List.length_map, List.length_replicate, hl5]; done) | (simp; done)) ?_
        refine RL.call (gcheck_any B g f5 (ob1.map fun b => ⟨b, 0, none⟩) cap1 (min x.f.b.length 60) (t : Int) hmo hg hf5 hn5 (by omega)) Tryz.call14 rfl rfl rfl rfl rfl (by repeat (first | exact Pick.nil | apply Pick.take | apply Pick.leave)) (Lend.ownE (by repeat (first | exact List.Mem.head _ | apply List.Mem.tail)) rfl (by rw [hb5]) .nil) (.inr rfl) ?_
        have hk : kmay g.l (s : Int) (t : Int) = 0 := by rw [hu, if_neg (by simpa using htu)]
        obtain ⟨e1, e2, e3⟩ := hS5.2 hk
        have e3 := e3 hm5
        rw [hm5] at e1
        rintro _ _ _ ⟨rfl, rfl, cm2, ct2, hcm2, hct2, rfl⟩
        rw [e1] at hct2 ⊢
        rw [e2] at hcm2 ⊢
        rw [e3]
        have hp5 : (∃ o, atO g.T (s : Int) = some o ∧ (fmark f5).1 ≤ o.e) ∧ (fmark f5).1 < 4294967296 ∧ (fmark f5).2 < 18446744073709551616 := by
          obtain ⟨o, ho⟩ := Option.isSome_iff_exists.1 hS.h
          refine ⟨⟨o, ho, ?_⟩, hf5.ep, hf5.ct⟩
          show f5.ep ≤ o.e
          rw [he5, epochM, if_pos hmay, ho]; exact Nat.le_refl _
        have S2 := hS.take hp5 (goodL g.l (s : Int)) cm2 (chkD g.D 0) ct2
        have o2 : GOk ({ g with l := goodL g.l (s : Int), M := takeM g.M (s : Int) (fmark f5), cm := cm2, D := chkD g.D 0, ct := ct2 } : GSt) := ⟨hg.t, hg.k, by show (goodL g.l (s : Int)).length = 8; rw [goodL_len]; exact hg.l, hcm2, hg.y, hct2⟩
        have k2 : kmay ({ g with l := goodL g.l (s : Int), M := takeM g.M (s : Int) (fmark f5), cm := cm2, D := chkD g.D 0, ct := ct2 } : GSt).l (s : Int) (t : Int) = 0 := by rw [← hk]; exact kmay_good hmay hg.l
        have mm2 : mmay ({ g with l := goodL g.l (s : Int), M := takeM g.M (s : Int) (fmark f5), cm := cm2, D := chkD g.D 0, ct := ct2 } : GSt).M (s : Int) (fmark f5) = 170 := mmay_again hmay hm5
        have T2 : epochM ({ g with l := goodL g.l (s : Int), M := takeM g.M (s : Int) (fmark f5), cm := cm2, D := chkD g.D 0, ct := ct2 } : GSt).T (s : Int) = epochM g.T (s : Int) := rfl
        generalize ({ g with l := goodL g.l (s : Int), M := takeM g.M (s : Int) (fmark f5), cm := cm2, D := chkD g.D 0, ct := ct2 } : GSt) = g2 at *
        have q2 := ((takes_look (B := B) (f := f5) S2 hmay htk hs5 hk5 (by rw [T2]; exact he5) ht5).2 k2).1
        rw [mm2] at q2
        refine RL.bin rfl rfl rfl rfl rfl rfl ?_
        refine RL.move rfl rfl rfl rfl ?_
        refine RL.cast (d := 152) (v' := .bool true) rfl (rfl) ?_
        refine RL.move rfl rfl rfl rfl ?_
        refine RL.move rfl rfl rfl rfl ?_
        first | refine RL.loadM Tryz.isAgg38 Tryz.sizeOf38 rfl rfl rfl rfl (by assumption) ?_ | refine RL.loadA Tryz.isAgg38 Tryz.sizeOf38 rfl rfl rfl rfl (by first | assumption | (apply RdsI.rds; assumption)) (by first | rfl | assumption | (simp only [List.length_map]; assumption) | (simp only [List.length_map, List.length_replicate, hl5]; done) | (simp; done)) ?_ | refine RL.loadW Tryz.isAgg38 Tryz.sizeOf38 rfl rfl rfl rfl (by (solve | (repeat (first | exact List.Mem.head _ | apply List.Mem.tail)))) (by first | rfl | assumption | (simp only [List.length_map]; assumption) | (simp only [List.length_map, List.length_replicate, hl5]; done) | (simp; done)) ?_
        refine RL.call (gcheck_any B g2 f5 (ob1.map fun b => ⟨b, 0, none⟩) cap1 (min x.f.b.length 60) (t : Int) hmo o2 hf5 hn5 (by omega)) Tryz.call14 rfl rfl rfl rfl rfl (by repeat (first | exact Pick.nil | apply Pick.take | apply Pick.leave)) (Lend.ownE (by repeat (first | exact List.Mem.head _ | apply List.Mem.tail)) rfl (by rw [hb5]) .nil) (.inr rfl) ?_
        rintro _ _ _ ⟨rfl, rfl, cm3, ct3, -, -, rfl⟩
        rw [q2]
        refine RL.bin rfl rfl rfl rfl rfl rfl ?_
        refine RL.pickT rfl rfl rfl rfl rfl ?_
        refine RL.assign rfl rfl rfl rfl ?_
        refine RL.nil ?_
        refine NQ.seq ?_
        refine CW.only (.cons (k := 14) rfl .nil) ?_
        refine CW.ret ?_
        exact RQ.post (res1 rfl rfl) (Split.none _) ⟨rfl, rfl, rfl⟩
end Go.Proofs.YtkkfdoippibfkaaGreat

namespace Go.Proofs.YtkkfdoippibfkaaGreat
open Go.PK
noncomputable def rActs19 : Rdr Tryz.prog 22 (Sl Act19) := rAct19.slice 32 (by kernel_rfl) (by kernel_rfl) (by kernel_rfl) (by decide) (List.flatMap Act19.cells) (fun _ => rfl)
theorem authTakes_call (W : World) (most time : Int) (x : Sl Act19) (f : FrA) (source : Int) (b : Int) (tick : Int) (_ : rInt.ok most) (_ : rInt.ok time) (hx : rActs19.ok x) (hf : rFr.ok f) (_ : rInt.ok source) (hb : rU64.ok b) (_ : rInt.ok tick)
    (_ : ∀ y ∈ rInt.its most, y.A W) (_ : ∀ y ∈ rInt.its time, y.A W) (tx : ∀ y ∈ rActs19.its x, y.A W) (tf : ∀ y ∈ rFr.its f, y.A W) (_ : ∀ y ∈ rInt.its source, y.A W) (_ : ∀ y ∈ rU64.its b, y.A W) (_ : ∀ y ∈ rInt.its tick, y.A W) :
    Calls Tryz.prog 4 #[rInt.val most, rInt.val time, rActs19.val x, rFr.val f, rInt.val source, rU64.val b, rInt.val tick] W (fun e w' => e = .returned (.bool true) ∧ RowKit.Below W.heap.size W w') := by
  have hbb := wfk_bounds hb
  have hbb : 0 ≤ b ∧ b ≤ 18446744073709551615 := hbb
  obtain ⟨n, rfl⟩ : ∃ n : Nat, b = (n : Int) := ⟨b.toNat, by omega⟩
  have ht : ∀ y ∈ (sls x.p 32 x.l.length (x.l.flatMap Act19.cells) :: sls f.p 1 f.f.b.length (bytes f.f.b) :: x.l.flatMap Act19.its), y.A W := fun y hy => by
    rcases List.mem_cons.1 hy with rfl | hy
    · exact tx _ (List.Mem.head _)
    · rcases List.mem_cons.1 hy with rfl | hy
      · exact tf _ (List.Mem.head _)
      · exact tx _ (List.Mem.tail _ hy)
  exact (atakes x.p x.c x.l most time source tick f n hx.2.2.2 hx.1 hf (by omega)).lawI ht
end Go.Proofs.YtkkfdoippibfkaaGreat
