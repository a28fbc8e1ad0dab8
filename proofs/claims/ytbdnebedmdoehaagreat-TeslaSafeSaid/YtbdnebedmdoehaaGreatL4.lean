import Derived.Test.YtbdnebedmdoehaaGreatLA
import Derived.Test.YtbdnebedmdoehaaGreatF5
namespace Go.Proofs.YtbdnebedmdoehaaGreat
open Go.PK
/-! ### Frames that came, and those that are released -/
def Fr.same (f g : Fr) : Bool := f.kd == g.kd && (f.sr == g.sr && (f.ep == g.ep && (f.ct == g.ct && (f.b == g.b && f.tag == g.tag))))
theorem same_iff {f g : Fr} : f.same g = true ↔ f = g := by
  obtain ⟨a, b, c, d, e, h⟩ := f
  obtain ⟨a', b', c', d', e', h'⟩ := g
  simp [Fr.same]
def hasF (f : Fr) (l : List FrO) : Bool := l.any fun x => x.f.same f
def cutF (f : Fr) : List FrO → List FrO
  | [] => []
  | x :: r => if x.f.same f then r else x :: cutF f r
theorem hasF_snoc (f : Fr) (l : List FrO) (x : FrO) : hasF f (l ++ [x]) = (hasF f l || x.f.same f) := by simp [hasF]
theorem cutF_no {f : Fr} : ∀ {l : List FrO}, hasF f l = false → cutF f l = l
  | [], _ => rfl
  | x :: r, h => by
    have h' : (x.f.same f || hasF f r) = false := h
    rw [Bool.or_eq_false_iff] at h'
    rw [cutF, if_neg (by rw [h'.1]; decide), cutF_no h'.2]
theorem cutF_hit {f : Fr} {l : List FrO} {x : FrO} (h : hasF f l = false) (hx : x.f.same f = true) : cutF f (l ++ [x]) = cutF f l := by
  rw [cutF_no h]
  induction l with
  | nil => simp [cutF, hx]
  | cons y r ih =>
    have h' : (y.f.same f || hasF f r) = false := h
    rw [Bool.or_eq_false_iff] at h'
    rw [List.cons_append, cutF, if_neg (by rw [h'.1]; decide), ih h'.2]
theorem cutF_more {f : Fr} : ∀ {l : List FrO} {x : FrO}, (hasF f l = true ∨ x.f.same f = false) → cutF f (l ++ [x]) = cutF f l ++ [x]
  | [], x, h => by
    rcases h with h | h
    · cases h
    · simp [cutF, h]
  | y :: r, x, h => by
    rw [List.cons_append, cutF, cutF]
    by_cases hy : y.f.same f = true
    · rw [if_pos hy, if_pos hy]
    · rw [if_neg hy, if_neg hy, cutF_more (h.imp_left fun h => by
        have h' : (y.f.same f || hasF f r) = true := h
        simpa [hy] using h')]
      rfl
theorem cutF_perm {f : Fr} : ∀ {l : List FrO}, hasF f l = true → (l.map (·.f)).Perm (f :: (cutF f l).map (·.f))
  | [], h => by cases h
  | x :: r, h => by
    rw [cutF]
    by_cases hx : x.f.same f = true
    · rw [if_pos hx, List.map_cons, same_iff.1 hx]
    · rw [if_neg hx]
      have h' : (x.f.same f || hasF f r) = true := h
      have hr : hasF f r = true := by simpa [hx] using h'
      exact ((cutF_perm hr).cons _).trans (List.Perm.swap _ _ _)
theorem cutF_mem {f : Fr} : ∀ {l : List FrO}, ∀ x ∈ cutF f l, x ∈ l
  | [], _, h => by cases h
  | y :: r, x, h => by
    rw [cutF] at h
    split at h
    · exact List.mem_cons_of_mem _ h
    · rcases List.mem_cons.1 h with rfl | h
      · exact List.mem_cons_self
      · exact List.mem_cons_of_mem _ (cutF_mem x h)
theorem cutF_len (f : Fr) : ∀ l : List FrO, (cutF f l).length ≤ l.length
  | [] => Nat.le_refl _
  | x :: r => by
    rw [cutF]; split
    · simp
    · have := cutF_len f r; simp; omega
theorem hasF_of {f : Fr} {l : List FrO} (h : f ∈ l.map (·.f)) : hasF f l = true := by
  obtain ⟨x, hx, rfl⟩ := List.mem_map.1 h
  exact List.any_eq_true.2 ⟨x, hx, same_iff.2 rfl⟩
theorem DisO.lenT' {z : RSt} {iv : Nat} {key : List B8} {e : Int} {T : Bq} {z' : RSt} (h : DisO z iv key e T z') {n : Nat} (hn : z.c.length ≤ n) : T.length ≤ n := by
  cases h with
  | no => exact Nat.zero_le _
  | yes _ hT => have := hT.lenT; omega
theorem relL_mem' {k : List B8} {iv : Nat} {T : Bq} : ∀ y ∈ relL k iv T, ∃ x ∈ T, x.2 = y := fun y hy => by
  obtain ⟨x, hx, rfl⟩ := List.mem_map.1 hy
  exact ⟨x, (List.mem_filter.1 hx).1, rfl⟩
theorem RaiseO.m' {z : RSt} {iv : Nat} {key : List B8} {e : Int} {z' : RSt} (h : RaiseO z iv key e z') : z'.m = z.m := by cases h <;> rfl
abbrev frs (c : Bq) : List Fr := c.map fun x => x.2.f
theorem rel_perm (k : List B8) (iv : Nat) : ∀ T : Bq, (frs T).Perm ((relL k iv T).map (·.f) ++ frs (T.filter fun x => !okIt k iv x))
  | [] => List.Perm.refl _
  | x :: T => by
    have ih := rel_perm k iv T
    rw [relL] at ih ⊢
    by_cases h : okIt k iv x = true
    · rw [List.filter_cons_of_pos h, List.filter_cons_of_neg (by simp [h])]
      exact ih.cons _
    · rw [List.filter_cons_of_neg h, List.filter_cons_of_pos (by simp [h])]
      exact (ih.cons _).trans List.perm_middle.symm
theorem dis_perm {z z' : RSt} {iv : Nat} {key : List B8} {e : Int} {T : Bq} (h : DisO z iv key e T z') : ∃ r, (frs z.c).Perm ((relL key iv T).map (·.f) ++ (frs z'.c ++ r)) := by
  cases h with
  | no => exact ⟨[], by simp [relL]⟩
  | yes h0 hT =>
    rename_i c'
    refine ⟨frs (T.filter fun x => !okIt key iv x), ?_⟩
    have h1 : (frs (T ++ c')).Perm (frs z.c) := hT.p.map _
    refine h1.symm.trans ?_
    rw [frs, List.map_append]
    show (frs T ++ frs c').Perm _
    refine ((rel_perm key iv T).append_right _).trans ?_
    rw [List.append_assoc]
    exact List.perm_append_comm.append_left _
theorem raise_perm {z z' : RSt} {iv : Nat} {key : List B8} {e : Int} (h : RaiseO z iv key e z') : ∃ r, (frs z.c).Perm (frs z'.c ++ r) := by
  cases h with
  | no => exact ⟨[], by simp⟩
  | yes h0 hT =>
    rename_i T c'
    refine ⟨frs T, ?_⟩
    have h1 : (frs (T ++ c')).Perm (frs z.c) := hT.p.map _
    refine h1.symm.trans ?_
    rw [frs, List.map_append]
    exact List.perm_append_comm
theorem msgE_0 {s : Sch} {iv : Nat} {t : Int} {f : Fr} (h : msgE s iv t f = 0) : f.b.length = 29 ∧ safeB s t (mIv f) = true ∧ iv < mIv f := by
  unfold msgE at h
  split at h
  · cases h
  · next h1 =>
    split at h
    · cases h
    · next h2 =>
      refine ⟨Classical.byContradiction fun h => h1 (.inl h), ?_, Nat.lt_of_not_le fun h => h2 (.inl h)⟩
      cases hs : safeB s t (mIv f) with
      | true => rfl
      | false => exact absurd (.inr hs) h2
theorem mess_perm {s : Sch} {iv : Nat} {t : Int} {c : Bq} {f : Fr} {e : Int} {c' : Bq} {I' : List It} (h : MessO s iv t c f e c' I') : (e ≠ 0 → c' = c) ∧ (e = 0 → frs c' = frs c ++ [f] ∧ msgE s iv t f = 0) := by
  cases h with
  | no => exact ⟨fun _ => rfl, fun h => by cases h⟩
  | go ht hm =>
    cases hm with
    | no h h0 => exact ⟨fun _ => rfl, fun h => absurd h h0⟩
    | put hE hp =>
      cases hp with
      | no h h0 => exact ⟨fun _ => rfl, fun h => absurd h h0⟩
      | yes x hx h => exact ⟨fun h => absurd rfl h, fun _ => ⟨by simp [frs, hx], hE⟩⟩
theorem frsame_any (f g : Fr) (p q : Option Addr) (n m c d : Nat) (hf : f.Ok) (hg : g.Ok) : Spc Tryz.prog 9 #[.agg (f.cells (.slice p n c)).toArray, .agg (g.cells (.slice q m d)).toArray] [sls p 1 n (bytes f.b), sls q 1 m (bytes g.b)] [] (Is (.bool (f.same g))) := by
  have hl := fr_len hf.tag (.slice p n c)
  have hl2 := fr_len hg.tag (.slice q m d)
  have ht := hf.tag
  have hu := hg.tag
  have hlt : (bytes f.tag).length = 16 := by rw [List.length_map, ht]
  have hlu : (bytes g.tag).length = 16 := by rw [List.length_map, hu]
  refine Spc.enter Tryz.func9 rfl rfl rfl (fun w0 hw0 => ?_)
  refine CW.seq (CW.region (ef := [0, 1]) (bk := []) (RL.box rfl rfl rfl rfl rfl rfl ?_))
  intro b1
  refine RL.box rfl rfl rfl rfl rfl rfl ?_
  intro b2
  refine RL.p rfl (RL.nil (NQ.seq (CW.seq (CW.freezeP (A := [_, _]) (B := []) (.take (.take .nil)) rfl ?_))))
  have f1 : RdsN [cel b2 (g.cells (.slice q m d)) 30, cel b1 (f.cells (.slice p n c)) 30, sls p 1 n (bytes f.b), sls q 1 m (bytes g.b)] ⟨b1, 0 + 5, none⟩ 16 (bytes f.tag) := RdsN.told (by repeat (first | exact List.Mem.head _ | apply List.Mem.tail)) (fr_tag f _) hlt
  have f2 : RdsN [cel b2 (g.cells (.slice q m d)) 30, cel b1 (f.cells (.slice p n c)) 30, sls p 1 n (bytes f.b), sls q 1 m (bytes g.b)] ⟨b2, 0 + 5, none⟩ 16 (bytes g.tag) := RdsN.told (by repeat (first | exact List.Mem.head _ | apply List.Mem.tail)) (fr_tag g _) hlu
  refine CW.rg (RL.fieldAddr fa_30_0 rfl rfl rfl rfl (RL.loadq Tryz.isAgg3 rfl rfl rfl rfl ?_))
  refine RL.fieldAddr fa_30_0 rfl rfl rfl rfl (RL.loadq Tryz.isAgg3 rfl rfl rfl rfl ?_)
  refine RL.p rfl (RL.p rfl ?_)
  apply RL.andB (d := 10) (dp := 16) (l' := (Sq.of [12, 13, 14, 15, 16, 17, 18, 19, 20, 21, 22, 23, 24, 25, 26, 27, 28, 29, 30, 31, 32, 33, 34, 35, 36, 37, 38, 39, 40, 41, 42])) rfl (sK [2, 3, 4] rfl)
  ·
    intro hb6 K6
    refine RL.fieldAddr fa_30_1 rfl rfl rfl rfl (RL.loadq Tryz.isAgg3 rfl rfl rfl rfl ?_)
    refine RL.fieldAddr fa_30_1 rfl rfl rfl rfl (RL.loadq Tryz.isAgg3 rfl rfl rfl rfl ?_)
    refine RL.p rfl (RL.p rfl ?_)
    exact K6 _ (.cons rfl (sK [2, 3, 4] rfl))
  ·
    intro hb6 K6
    refine RL.p rfl (RL.p rfl (RL.p rfl (RL.p rfl (RL.p rfl (RL.p rfl ?_)))))
    exact K6 _ (.cons rfl (sK [2, 3, 4] rfl))
  refine RL.p rfl ?_
  apply RL.andB (d := 17) (dp := 23) (l' := (Sq.of [19, 20, 21, 22, 23, 24, 25, 26, 27, 28, 29, 30, 31, 32, 33, 34, 35, 36, 37, 38, 39, 40, 41, 42])) rfl (sK [2, 3, 4] rfl)
  ·
    intro hb13 K13
    refine RL.fieldAddr fa_30_2 rfl rfl rfl rfl (RL.loadq Tryz.isAgg24 rfl rfl rfl rfl ?_)
    refine RL.fieldAddr fa_30_2 rfl rfl rfl rfl (RL.loadq Tryz.isAgg24 rfl rfl rfl rfl ?_)
    refine RL.p rfl (RL.p rfl ?_)
    exact K13 _ (.cons rfl (sK [2, 3, 4] rfl))
  ·
    intro hb13 K13
    refine RL.p rfl (RL.p rfl (RL.p rfl (RL.p rfl (RL.p rfl (RL.p rfl ?_)))))
    exact K13 _ (.cons rfl (sK [2, 3, 4] rfl))
  refine RL.p rfl ?_
  apply RL.andB (d := 24) (dp := 30) (l' := (Sq.of [26, 27, 28, 29, 30, 31, 32, 33, 34, 35, 36, 37, 38, 39, 40, 41, 42])) rfl (sK [2, 3, 4] rfl)
  ·
    intro hb20 K20
    refine RL.fieldAddr fa_30_3 rfl rfl rfl rfl (RL.loadq Tryz.isAgg25 rfl rfl rfl rfl ?_)
    refine RL.fieldAddr fa_30_3 rfl rfl rfl rfl (RL.loadq Tryz.isAgg25 rfl rfl rfl rfl ?_)
    refine RL.p rfl (RL.p rfl ?_)
    exact K20 _ (.cons rfl (sK [2, 3, 4] rfl))
  ·
    intro hb20 K20
    refine RL.p rfl (RL.p rfl (RL.p rfl (RL.p rfl (RL.p rfl (RL.p rfl ?_)))))
    exact K20 _ (.cons rfl (sK [2, 3, 4] rfl))
  refine RL.p rfl ?_
  apply RL.andB (d := 31) (dp := 39) (l' := (Sq.of [35, 36, 37, 38, 39, 40, 41, 42])) rfl (sK [2, 3, 4] rfl)
  ·
    intro hb27 K27
    refine RL.fieldAddr fa_30_4 rfl rfl rfl rfl (RL.loadq Tryz.isAgg26 rfl rfl rfl rfl ?_)
    refine RL.bytesStr (bs := f.b) (e := 5) (by kernel_rfl) (by kernel_rfl) (by kernel_rfl) rfl rfl rfl rfl (Src.sls (by repeat (first | exact List.Mem.head _ | apply List.Mem.tail))) ?_
    refine RL.fieldAddr fa_30_4 rfl rfl rfl rfl (RL.loadq Tryz.isAgg26 rfl rfl rfl rfl ?_)
    refine RL.bytesStr (bs := g.b) (e := 5) (by kernel_rfl) (by kernel_rfl) (by kernel_rfl) rfl rfl rfl rfl (Src.sls (by repeat (first | exact List.Mem.head _ | apply List.Mem.tail))) ?_
    refine RL.cmp rfl rfl rfl rfl rfl (eql_txt f.b g.b) (RL.p rfl ?_)
    exact K27 _ (.cons rfl (sK [2, 3, 4] rfl))
  ·
    intro hb27 K27
    refine RL.p rfl (RL.p rfl (RL.p rfl (RL.p rfl (RL.p rfl (RL.p rfl (RL.p rfl (RL.p rfl ?_)))))))
    exact K27 _ (.cons rfl (sK [2, 3, 4] rfl))
  refine RL.p rfl ?_
  apply RL.andB (d := 40) (dp := 46) (l' := (Sq.of [42])) rfl (sK [4] rfl)
  ·
    intro hb36 K36
    refine RL.fieldAddr fa_30_5 rfl rfl rfl rfl (RL.loadSq Tryz.isAgg28 Tryz.sizeOf28 rfl rfl rfl rfl ?_)
    refine RL.fieldAddr fa_30_5 rfl rfl rfl rfl (RL.loadSq Tryz.isAgg28 Tryz.sizeOf28 rfl rfl rfl rfl ?_)
    refine RL.cmp rfl rfl rfl rfl rfl (tag_eq _ _ ht hu _ _) (RL.p rfl ?_)
    exact K36 _ (.cons rfl (sK [4] rfl))
  ·
    intro hb36 K36
    refine RL.p rfl (RL.p rfl (RL.p rfl (RL.p rfl (RL.p rfl (RL.p rfl ?_)))))
    exact K36 _ (.cons rfl (sK [4] rfl))
  refine RL.p rfl (RL.nil (NQ.seq (CW.ret ?_)))
  exact RQ.post (res1 rfl rfl) (Split.none _) ⟨by
    congr 1
    rw [Bool.eq_iff_iff]
    simp [Fr.same, Int.natCast_inj, and_assoc], rfl, rfl⟩
end Go.Proofs.YtbdnebedmdoehaaGreat
