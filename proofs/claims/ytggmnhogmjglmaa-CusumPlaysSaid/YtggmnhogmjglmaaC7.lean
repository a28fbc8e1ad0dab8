import Derived.Test.YtggmnhogmjglmaaC6
namespace Go.Proofs.Ytggmnhogmjglmaa
open Go.PK
/-! ### Both monitors alike -/
theorem lk_put (q p v : Int × Int) : ∀ c : Held, lk q (put p v c) = if q = p then some v else lk q c
  | [] => by simp only [put, lk]
  | (r, u) :: c => by
    rw [put]
    by_cases h : p = r
    · subst h; rw [if_pos rfl]; simp only [lk]; split <;> rfl
    · rw [if_neg h]; simp only [lk]; rw [lk_put q p v c]
      by_cases h2 : q = r
      · subst h2; rw [if_pos rfl, if_neg (fun e => h e.symm), if_pos rfl]
      · rw [if_neg h2, if_neg h2]
theorem lk_none {q : Int × Int} : ∀ {c : Held}, (∀ x ∈ c, x.1 ≠ q) → lk q c = none
  | [], _ => rfl
  | (r, u) :: c, h => by rw [lk, if_neg (fun e => h (r, u) (by simp) e.symm), lk_none (fun x hx => h x (by simp [hx]))]
theorem lk_del (q p : Int × Int) : ∀ c : Held, (c.map (·.1)).Nodup → lk q (del p c) = if q = p then none else lk q c
  | [], _ => by simp [del, lk]
  | (r, u) :: c, hn => by
    rw [List.map_cons, List.nodup_cons] at hn
    rw [del]
    by_cases h : p = r
    · subst h; rw [if_pos rfl]
      by_cases h2 : q = p
      · subst h2; rw [if_pos rfl]
        exact lk_none (fun x hx e => hn.1 (List.mem_map.2 ⟨x, hx, e⟩))
      · rw [if_neg h2, lk, if_neg h2]
    · rw [if_neg h]; simp only [lk]; rw [lk_del q p c hn.2]
      by_cases h2 : q = r
      · subst h2; rw [if_pos rfl, if_neg (fun e => h e.symm), if_pos rfl]
      · rw [if_neg h2, if_neg h2]
theorem lk_noS (q : Int × Int) (n : Int) : ∀ c : Held, lk q (noS n c) = if q.1 = n then none else lk q c
  | [] => by simp [noS, lk]
  | (r, u) :: c => by
    have ih := lk_noS q n c
    by_cases h : r.1 = n
    · rw [noS, List.filter_cons_of_neg (by simp [h]), ← noS, ih, lk]
      by_cases h2 : q = r
      · subst h2; rw [if_pos h, if_pos h]
      · rw [if_neg h2]
    · rw [noS, List.filter_cons_of_pos (by simp [h]), ← noS, lk, ih, lk]
      by_cases h2 : q = r
      · subst h2; rw [if_pos rfl, if_neg h, if_pos rfl]
      · rw [if_neg h2, if_neg h2]
theorem put_mem {p v : Int × Int} {x : (Int × Int) × (Int × Int)} : ∀ {c : Held}, x ∈ put p v c → x = (p, v) ∨ x ∈ c
  | [], h => .inl (by simpa [put] using h)
  | (r, u) :: c, h => by
    rw [put] at h
    split at h
    · next e => rcases List.mem_cons.1 h with h | h
                · exact .inl h
                · exact .inr (by simp [h])
    · rcases List.mem_cons.1 h with h | h
      · exact .inr (by simp [h])
      · rcases put_mem h with h | h
        · exact .inl h
        · exact .inr (by simp [h])
theorem put_nd {p v : Int × Int} : ∀ {c : Held}, (c.map (·.1)).Nodup → ((put p v c).map (·.1)).Nodup
  | [], _ => by simp [put]
  | (r, u) :: c, hn => by
    rw [List.map_cons, List.nodup_cons] at hn
    rw [put]
    split
    · next e => subst e; rw [List.map_cons, List.nodup_cons]; exact hn
    · next e =>
      rw [List.map_cons, List.nodup_cons]
      refine ⟨fun hm => ?_, put_nd hn.2⟩
      obtain ⟨x, hx, he⟩ := List.mem_map.1 hm
      rcases put_mem hx with h | h
      · subst h; exact e he
      · exact hn.1 (List.mem_map.2 ⟨x, h, he⟩)
theorem put_len (p v : Int × Int) : ∀ c : Held, (put p v c).length ≤ c.length + 1
  | [] => by simp [put]
  | (r, u) :: c => by
    rw [put]; split
    · simp
    · have := put_len p v c; simp; omega
theorem del_len (p : Int × Int) : ∀ c : Held, (del p c).length ≤ c.length
  | [] => by simp [del]
  | (r, u) :: c => by
    rw [del]; split
    · simp
    · have := del_len p c; simp; omega
theorem del_subl (p : Int × Int) : ∀ c : Held, (del p c).Sublist c
  | [] => .slnil
  | (r, u) :: c => by
    rw [del]; split
    · exact .cons _ (List.Sublist.refl _)
    · exact .cons_cons _ (del_subl p c)
structure CAl (c : Held) (U D : Nat → Int) : Prop where
  nd : (c.map (·.1)).Nodup
  rng : ∀ x ∈ c, 0 ≤ x.1.1 ∧ x.1.1 < 8 ∧ 0 ≤ x.1.2 ∧ x.1.2 < 3
  at_ : ∀ k, k < 24 → at0 (kp k) c = (U k, D k)
  bd : ∀ k, isMax (U k) ∧ isMax (D k)
  cb : Bd c
theorem kp_inj {j k : Nat} (h : kp j = kp k) : j = k := by
  simp only [kp, Prod.mk.injEq] at h; omega
theorem kp_eq {s a : Nat} (ha : a < 3) : kp (3 * s + a) = ((s : Int), (a : Int)) := by
  simp only [kp]; congr 1 <;> omega
theorem CAl.zero : CAl [] (fun _ => 0) (fun _ => 0) := ⟨by simp, fun x hx => (by cases hx), fun k _ => rfl, fun _ => ⟨by simp [isMax], by simp [isMax]⟩, fun x hx => (by cases hx)⟩
theorem max_clip' (z : Int) : isMax (max (clip z) 0) := by
  have := clip_bd z
  unfold isMax; omega
theorem CAl.step {c : Held} {U D : Nat → Int} (h : CAl c U D) {s a : Nat} (hs : s < 8) (ha : a < 3) (slack x : Int) :
    CAl (upd ((s : Int), (a : Int)) (nextP slack x (U (3 * s + a), D (3 * s + a))) c) (setF U (3 * s + a) (nextP slack x (U (3 * s + a), D (3 * s + a))).1) (setF D (3 * s + a) (nextP slack x (U (3 * s + a), D (3 * s + a))).2) := by
  have hv1 : isMax (nextP slack x (U (3 * s + a), D (3 * s + a))).1 := max_clip' _
  have hv2 : isMax (nextP slack x (U (3 * s + a), D (3 * s + a))).2 := max_clip' _
  generalize nextP slack x (U (3 * s + a), D (3 * s + a)) = v at *
  have hk := kp_eq (s := s) ha
  have hb : ∀ k, isMax (setF U (3 * s + a) v.1 k) ∧ isMax (setF D (3 * s + a) v.2 k) := fun k => by
    simp only [setF]; split
    · exact ⟨hv1, hv2⟩
    · exact h.bd k
  by_cases hz : v = (0, 0)
  · rw [upd, if_pos hz]
    refine ⟨h.nd.sublist ((del_subl _ _).map _), fun x hx => h.rng x (del_sub _ _ x hx), fun k hk' => ?_, hb, fun x hx => h.cb x (del_sub _ _ x hx)⟩
    rw [at0, lk_del _ _ _ h.nd]
    simp only [setF]
    by_cases e : k = 3 * s + a
    · subst e; rw [if_pos hk, if_pos rfl, if_pos rfl, hz]; rfl
    · rw [if_neg (fun e' => e (kp_inj (e'.trans hk.symm))), if_neg e, if_neg e]; exact h.at_ k hk'
  · rw [upd, if_neg hz]
    refine ⟨put_nd h.nd, fun x hx => ?_, fun k hk' => ?_, hb, fun x hx => ?_⟩
    · rcases put_mem hx with rfl | hx
      · simp only; omega
      · exact h.rng x hx
    · rw [at0, lk_put]
      simp only [setF]
      by_cases e : k = 3 * s + a
      · subst e; rw [if_pos hk, if_pos rfl, if_pos rfl]; rfl
      · rw [if_neg (fun e' => e (kp_inj (e'.trans hk.symm))), if_neg e, if_neg e]; exact h.at_ k hk'
    · rcases put_mem hx with rfl | hx
      · exact ⟨hv1, hv2⟩
      · exact h.cb x hx
theorem CAl.clear {c : Held} {U D : Nat → Int} (h : CAl c U D) (s : Nat) : CAl (noS (s : Int) c) (clrF U s) (clrF D s) := by
  refine ⟨h.nd.sublist (List.filter_sublist.map _), fun x hx => h.rng x (List.mem_filter.1 hx).1, fun k hk => ?_, fun k => ?_, fun x hx => h.cb x (List.mem_filter.1 hx).1⟩
  · rw [at0, lk_noS]
    by_cases e : k / 3 = s
    · rw [if_pos (show (kp k).1 = (s : Int) by rw [kp, e]), clrF, clrF, if_pos e, if_pos e]; rfl
    · rw [if_neg (show ¬ (kp k).1 = (s : Int) from fun e' => e (by have e2 : ((k / 3 : Nat) : Int) = (s : Int) := e'; exact_mod_cast e2)), clrF, clrF, if_neg e, if_neg e]; exact h.at_ k hk
  · simp only [clrF]; split
    · exact ⟨by simp [isMax], by simp [isMax]⟩
    · exact h.bd k
theorem lk_mem {p v : Int × Int} : ∀ {c : Held}, lk p c = some v → (p, v) ∈ c
  | (q, u) :: c, h => by
    rw [lk] at h
    split at h
    · next e => subst e; cases h; exact List.mem_cons_self
    · exact List.mem_cons_of_mem _ (lk_mem h)
theorem mem_lk {p v : Int × Int} : ∀ {c : Held}, (c.map (·.1)).Nodup → (p, v) ∈ c → lk p c = some v
  | (q, u) :: c, hn, h => by
    rw [List.map_cons, List.nodup_cons] at hn
    rw [lk]
    rcases List.mem_cons.1 h with h | h
    · cases h; rw [if_pos rfl]
    · rw [if_neg (fun e => hn.1 (List.mem_map.2 ⟨_, h, e⟩))]; exact mem_lk hn.2 h
theorem CAl.drifts {c : Held} {U D : Nat → Int} (h : CAl c U D) {most : Int} (hm : 0 < most) : (dks most c).mergeSort lexLe = rdl most U D 24 := by
  refine sort_is ?_ ?_
  · refine (List.perm_ext_iff_of_nodup (h.nd.sublist (List.filter_sublist.map _)) ?_).2 (fun p => ?_)
    · exact List.Pairwise.map _ (fun a b hab e => hab (kp_inj e)) (List.nodup_range.sublist List.filter_sublist)
    · have hd : ∀ k, k < 24 → (drK most U D k = decide (max (at0 (kp k) c).1 (at0 (kp k) c).2 > most)) := fun k hk => by
        rw [h.at_ k hk, Bool.eq_iff_iff]; simp [drK]; omega
      constructor
      · intro hp
        obtain ⟨x, hx, rfl⟩ := List.mem_map.1 hp
        obtain ⟨hx1, hx2⟩ := List.mem_filter.1 hx
        obtain ⟨⟨s, a⟩, v⟩ := x
        have hr := h.rng _ hx1
        dsimp only at hr
        have hl := mem_lk h.nd hx1
        obtain ⟨s', rfl⟩ : ∃ s' : Nat, s = (s' : Int) := ⟨s.toNat, by omega⟩
        obtain ⟨a', rfl⟩ : ∃ a' : Nat, a = (a' : Int) := ⟨a.toNat, by omega⟩
        have hk := kp_eq (s := s') (a := a') (by omega)
        refine List.mem_map.2 ⟨3 * s' + a', List.mem_filter.2 ⟨List.mem_range.2 (by omega), ?_⟩, hk⟩
        rw [hd _ (by omega), hk, at0, hl]
        exact hx2
      · intro hp
        obtain ⟨k, hk, rfl⟩ := List.mem_map.1 hp
        obtain ⟨hk1, hk2⟩ := List.mem_filter.1 hk
        rw [hd k (List.mem_range.1 hk1)] at hk2
        cases hl : lk (kp k) c with
        | none => rw [at0, hl] at hk2; simp at hk2; omega
        | some v =>
          rw [at0, hl] at hk2
          exact List.mem_map.2 ⟨(kp k, v), List.mem_filter.2 ⟨lk_mem hl, hk2⟩, rfl⟩
  · refine List.Pairwise.map kp (R := fun a b => a < b) (fun a b hab => ?_) (List.pairwise_lt_range.sublist List.filter_sublist)
    have e : a / 3 < b / 3 ∨ a / 3 = b / 3 ∧ a % 3 ≤ b % 3 := by omega
    refine decide_eq_true ?_
    simp only [kp]
    exact_mod_cast e
end Go.Proofs.Ytggmnhogmjglmaa
