import Derived.Test.YtbdnebedmdoehaaGreatP8
import Derived.Test.YtbdnebedmdoehaaGreatF5
namespace Go.Proofs.YtbdnebedmdoehaaGreat
open Go.PK
/-! ### Both buffers alike -/
def ab (x : Pq × FrO) : Pq × Fr := (x.1, x.2.f)
theorem ltQ_irrefl (p : Pq) : ¬ ltQ p p := by simp [ltQ]
theorem ltQ_trans {p q r : Pq} (h1 : ltQ p q) (h2 : ltQ q r) : ltQ p r := by simp only [ltQ] at *; omega
theorem ltQ_tri {p q : Pq} (h1 : ¬ ltQ p q) (h2 : p ≠ q) : ltQ q p := by
  obtain ⟨a, b⟩ := p; obtain ⟨c, d⟩ := q
  have h2' : ¬ (a = c ∧ b = d) := fun h => h2 (by rw [h.1, h.2])
  simp only [ltQ] at *; omega
structure PAl (c R : Bq) : Prop where
  p : (c.map ab).Perm (R.map ab)
  s : (keysQ R).Pairwise ltQ
  co : ∀ x ∈ c, x.2.Ok
  ro : ∀ x ∈ R, x.2.Ok
  l : R.length ≤ 16
theorem keys_ab (c : Bq) : keysQ c = (c.map ab).map (·.1) := by simp [keysQ, ab, Function.comp_def]
theorem PAl.k {c R : Bq} (h : PAl c R) : (keysQ c).Perm (keysQ R) := by rw [keys_ab, keys_ab]; exact h.p.map _
theorem PAl.len {c R : Bq} (h : PAl c R) : c.length = R.length := by simpa using h.p.length_eq
theorem sorted_nd {l : List Pq} (h : l.Pairwise ltQ) : l.Nodup := h.imp (fun {a b} hab e => by subst e; exact ltQ_irrefl _ hab)
theorem PAl.nd {c R : Bq} (h : PAl c R) : (keysQ c).Nodup := h.k.nodup_iff.2 (sorted_nd h.s)
theorem PAl.e {c R : Bq} (h : PAl c R) (p : Pq) : qputE (keysQ c) p = qputE (keysQ R) p := by
  have h1 : (p ∈ keysQ c) = (p ∈ keysQ R) := propext h.k.mem_iff
  have h2 : (keysQ c).length = (keysQ R).length := h.k.length_eq
  unfold qputE
  rw [h2]
  by_cases h3 : p.1 = 0
  · rw [if_pos h3, if_pos h3]
  · rw [if_neg h3, if_neg h3]
    by_cases h4 : p ∈ keysQ R
    · rw [if_pos h4, if_pos (h1 ▸ h4)]
    · rw [if_neg h4, if_neg (h1 ▸ h4)]
theorem insL_cons (a : Pq × FrO) (R : Bq) (p : Pq) (x : FrO) : insL (a :: R) p x = if ltQ a.1 p then a :: insL R p x else (p, x) :: a :: R := by
  unfold insL
  rw [insQ]
  split <;> simp
theorem insL_perm (R : Bq) (p : Pq) (x : FrO) : (insL R p x).Perm ((p, x) :: R) := by
  unfold insL
  refine List.perm_middle.trans ?_
  rw [List.take_append_drop]
theorem insL_sorted {p : Pq} {x : FrO} : ∀ {R : Bq}, (keysQ R).Pairwise ltQ → p ∉ keysQ R → (keysQ (insL R p x)).Pairwise ltQ
  | [], _, _ => by simp [insL, insQ, keysQ]
  | a :: R, h, hp => by
    rw [insL_cons]
    have h' : (∀ q ∈ keysQ R, ltQ a.1 q) ∧ (keysQ R).Pairwise ltQ := List.pairwise_cons.1 h
    simp only [keysQ, List.map_cons, List.mem_cons, not_or] at hp
    split
    · next hlt =>
      refine List.pairwise_cons.2 ⟨fun q hq => ?_, insL_sorted h'.2 hp.2⟩
      have hm := ((insL_perm R p x).map Prod.fst).mem_iff.1 hq
      rcases List.mem_cons.1 hm with hm | hm
      · rw [hm]; exact hlt
      · exact h'.1 q hm
    · next hlt =>
      have hpa : ltQ p a.1 := ltQ_tri hlt (fun e => hp.1 e.symm)
      refine List.pairwise_cons.2 ⟨fun q hq => ?_, h⟩
      rcases List.mem_cons.1 hq with hq | hq
      · rw [hq]; exact hpa
      · exact ltQ_trans hpa (h'.1 q hq)
theorem PAl.put {c R : Bq} (h : PAl c R) {p : Pq} {f : Fr} {e e' : Int} {c' R' : Bq} {I1 I2 : List It} (h1 : PutO c p f e c' I1) (h2 : RPutO R p f e' R' I2) (hf : f.Ok) (hb : f.b.length ≤ 100000) : e = e' ∧ PAl c' R' := by
  have he := h.e p
  cases h1 with
  | no a b =>
    cases h2 with
    | no a' b' => exact ⟨by rw [← a, ← a', he], h⟩
    | yes x hx a' => exact absurd (by rw [← a, he, a']) b
  | yes x hx a =>
    cases h2 with
    | no a' b' => exact absurd (by rw [← a', ← he, a]) b'
    | yes z hz a' =>
      have hm : p ∉ keysQ R := by
        intro hm
        unfold qputE at a'
        split at a'
        · cases a'
        · exact absurd a' (by first | decide | (rw [if_pos hm]; decide))
      have hl : R.length ≠ 16 := fun e => qputE_16 (by simpa [keysQ] using e) a'
      have hxo : x.Ok := ⟨by rw [hx]; exact hf, by rw [hx]; exact hb⟩
      have hzo : z.Ok := ⟨by rw [hz]; exact hf, by rw [hz]; exact hb⟩
      have hpp := insL_perm R p z
      refine ⟨rfl, ?_, insL_sorted h.s hm, fun y hy => ?_, fun y hy => ?_, ?_⟩
      · rw [List.map_append]
        refine (List.perm_append_comm.trans ?_).trans (hpp.map ab).symm
        show (ab (p, x) :: c.map ab).Perm (ab (p, z) :: R.map ab)
        rw [show ab (p, x) = ab (p, z) by simp [ab, hx, hz]]
        exact h.p.cons _
      · rcases List.mem_append.1 hy with hy | hy
        · exact h.co y hy
        · rw [List.mem_singleton] at hy; subst hy; exact hxo
      · rcases List.mem_cons.1 (hpp.mem_iff.1 hy) with hy | hy
        · subst hy; exact hzo
        · exact h.ro y hy
      · have := hpp.length_eq
        have := h.l
        simp at *; omega
theorem filter_ab (iv : Int) (l : Bq) : (l.filter (upTo iv)).map ab = (l.map ab).filter fun z => decide (z.1.1 ≤ iv) := by
  rw [List.filter_map]; rfl
theorem filter_ab' (iv : Int) (l : Bq) : (l.filter fun x => !upTo iv x).map ab = (l.map ab).filter fun z => !decide (z.1.1 ≤ iv) := by
  rw [List.filter_map]; rfl
theorem PAl.take {c R : Bq} (h : PAl c R) {iv : Int} {T c' : Bq} (hT : TakeO c iv T c') : PAl c' (rLeft iv R) ∧ T.map ab = (rOut iv R).map ab := by
  have hs1 : (keysQ (rLeft iv R)).Pairwise ltQ := h.s.sublist (List.filter_sublist.map _)
  have hs2 : (keysQ (rOut iv R)).Pairwise ltQ := h.s.sublist (List.filter_sublist.map _)
  have f1 : (T ++ c').filter (upTo iv) = T := by
    rw [List.filter_append, List.filter_eq_self.2 (fun x hx => by simpa [upTo] using hT.le x hx), List.filter_eq_nil_iff.2 (fun x hx => by have := hT.gt x hx; simp [upTo]; omega), List.append_nil]
  have f2 : (T ++ c').filter (fun x => !upTo iv x) = c' := by
    rw [List.filter_append, List.filter_eq_nil_iff.2 (fun x (hx : x ∈ T) => by have := hT.le x hx; simp [upTo]; omega), List.filter_eq_self.2 (fun x (hx : x ∈ c') => by have := hT.gt x hx; simp [upTo]; omega), List.nil_append]
  have p1 : (T.map ab).Perm ((rOut iv R).map ab) := by
    rw [rOut, filter_ab, ← f1, filter_ab]
    exact ((hT.p.map ab).trans h.p).filter _
  have p2 : (c'.map ab).Perm ((rLeft iv R).map ab) := by
    rw [rLeft, filter_ab', ← f2, filter_ab']
    exact ((hT.p.map ab).trans h.p).filter _
  refine ⟨⟨p2, hs1, (hT.ok h.co).2, fun x hx => h.ro x (List.mem_filter.1 hx).1, Nat.le_trans (rLeft_le _ _) h.l⟩, ?_⟩
  refine p1.eq_of_pairwise (le := fun x y => ltQ x.1 y.1) (fun x y _ _ h1 h2 => absurd (ltQ_trans h1 h2) (ltQ_irrefl _)) ?_ ?_
  · have := hT.s
    rw [keys_ab] at this
    exact List.pairwise_map.1 this
  · rw [keys_ab] at hs2
    exact List.pairwise_map.1 hs2
theorem PAl.drop {c R : Bq} (h : PAl c R) {iv : Int} {n : Nat} {c' : Bq} (hD : DropO c iv n c') : PAl c' (rDropL iv R) ∧ n = rDropN iv R := by
  cases hD with
  | no h0 => rw [rDropL, rDropN, if_pos h0, if_pos h0]; exact ⟨h, rfl⟩
  | yes h0 ht =>
    obtain ⟨h1, h2⟩ := h.take ht
    rw [rDropL, rDropN, if_neg h0, if_neg h0]
    refine ⟨h1, ?_⟩
    have := congrArg List.length h2
    simpa using this
theorem lk_ab {p : Pq} : ∀ (c : Bq), (lkQ p c).map (·.f) = (((c.map ab).find? fun z => decide (z.1 = p)).map (·.2))
  | [] => rfl
  | (q, x) :: c => by
    rw [lkQ]
    by_cases h : p = q
    · subst h; simp [ab]
    · have h' : ¬ q = p := fun e => h e.symm
      rw [if_neg h, lk_ab c]; simp [ab, h']
theorem PAl.get {c R : Bq} (h : PAl c R) (p : Pq) : (lkQ p c).map (·.f) = (lkQ p R).map (·.f) := by
  cases hc : lkQ p c with
  | none =>
    have : p ∉ keysQ R := fun hm => lkQ_none.1 hc (h.k.mem_iff.2 hm)
    rw [lkQ_none.2 this]
  | some x =>
    have h1 : ab (p, x) ∈ R.map ab := h.p.mem_iff.1 (List.mem_map.2 ⟨_, lkQ_some hc, rfl⟩)
    obtain ⟨⟨q, z⟩, h2, h3⟩ := List.mem_map.1 h1
    simp only [ab, Prod.mk.injEq] at h3
    obtain ⟨rfl, h3⟩ := h3
    rw [lkQ_mem (sorted_nd h.s) h2]
    simp [h3]
theorem PAl.pls {c R : Bq} (h : PAl c R) : plsQ c = keysQ R := by
  refine sort_is h.k ?_
  refine h.s.imp (fun {a b} hab => ?_)
  obtain ⟨x, y⟩ := a; obtain ⟨z, w⟩ := b
  simp only [ltQ] at hab
  simp [lexLe]; omega
theorem PAl.zero : PAl [] [] := ⟨List.Perm.refl _, by simp [keysQ], fun x hx => (by cases hx), fun x hx => (by cases hx), by decide⟩
/-! ### Get of the program -/
def GetR (f : Fr) (s : Bool) : Value → List It → List It → Prop := fun v I' H' => ∃ ob cp, v = .tuple #[.agg (f.cells (slO ob f.b.length cp)).toArray, .bool s] ∧ I' = [] ∧ H' = [own ob cp 5 1 f.b.length (bytes f.b)]
/-! ### The same items -/
theorem ne_plq (x0 x1 y0 y1 : Int) (x y : Operand) (w : World) : (do eqGuard .neq 118 x y (.agg #[.int .u32 x0, .int .u8 x1]) (.agg #[.int .u32 y0, .int .u8 y1]); binOp .neq 118 (.agg #[.int .u32 x0, .int .u8 x1]) (.agg #[.int .u32 y0, .int .u8 y1]) : Sem Value).run Tryz.prog w = .ok (.bool (!(x0 == y0 && x1 == y1))) w := by
  simp [run_eqGuard_agg, run_neq_struct, run_equalIn_struct, Program.fieldsOf, Op.eqFields, Go.part, go_sem]
  by_cases h1 : x0 = y0 <;> by_cases h2 : x1 = y1 <;> simp [h1, h2]
/-- Frames of one's own are the same. -/
theorem frsame_o {x z : FrO} (h : x.f = z.f) (hf : z.f.Ok) : Spc Tryz.prog 9 #[frV x, frV z] [sls (x.ob.map fun b => ⟨b, 0, none⟩) 1 x.f.b.length (bytes x.f.b), sls (z.ob.map fun b => ⟨b, 0, none⟩) 1 z.f.b.length (bytes z.f.b)] [] (Is (.bool true)) := by
  obtain ⟨f, ob, cp⟩ := x
  subst h
  exact frsame_refl z.f _ _ _ _ _ _ hf
end Go.Proofs.YtbdnebedmdoehaaGreat
