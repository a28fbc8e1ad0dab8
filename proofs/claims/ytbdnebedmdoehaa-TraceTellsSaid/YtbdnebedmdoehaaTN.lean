import Derived.Test.YtbdnebedmdoehaaLexSort
import Derived.Test.YtbdnebedmdoehaaTM
import Derived.Test.YtbdnebedmdoehaaPkEn
import Derived.Test.YtbdnebedmdoehaaPE
import Derived.Test.YtbdnebedmdoehaaCmp
import Derived.Shelf.SlSortCmp.NoneTotal
import Derived.Shelf.Lay
import Derived.Ground.SlsfProg
namespace Go.Proofs.Ytbdnebedmdoehaa
open Go.PK
/-! ### Tallies -/
abbrev K3 := Int × Int × Int
def lt3 (p q : K3) : Prop := p.1 < q.1 ∨ p.1 = q.1 ∧ (p.2.1 < q.2.1 ∨ p.2.1 = q.2.1 ∧ p.2.2 < q.2.2)
instance (p q : K3) : Decidable (lt3 p q) := inferInstanceAs (Decidable (_ ∨ _))
theorem lt3_irrefl (p : K3) : ¬ lt3 p p := by simp [lt3]
theorem lt3_trans {p q r : K3} (h1 : lt3 p q) (h2 : lt3 q r) : lt3 p r := by simp only [lt3] at *; omega
theorem lt3_tri {p q : K3} (h1 : ¬ lt3 p q) (h2 : ¬ lt3 q p) : p = q := by
  obtain ⟨a, b, c⟩ := p; obtain ⟨d, e, f⟩ := q
  simp only [lt3] at h1 h2
  simp only [Prod.mk.injEq]; omega
abbrev Tl := List (K3 × Int)
def keys3 (m : Tl) : List K3 := m.map (·.1)
def tcnt (e : K3) : Tl → Int
  | [] => 0
  | (a, n) :: r => if e = a then n else tcnt e r
def tput (e : K3) (v : Int) : Tl → Tl
  | [] => [(e, v)]
  | (a, n) :: r => if e = a then (e, v) :: r else (a, n) :: tput e v r
def tbump (e : K3) (m : Tl) : Tl := tput e (tcnt e m + 1) m
def tdel (e : K3) (m : Tl) : Tl := m.filter fun x => decide (x.1 ≠ e)
def rins (e : K3) : Tl → Tl
  | [] => [(e, 1)]
  | (a, n) :: r => if lt3 a e then (a, n) :: rins e r else if lt3 e a then (e, 1) :: (a, n) :: r else (a, n + 1) :: r
theorem tdel_no {e : K3} {m : Tl} (h : e ∉ keys3 m) : tdel e m = m := List.filter_eq_self.2 fun x hx => by
  have : x.1 ≠ e := fun he => h (he ▸ List.mem_map.2 ⟨x, hx, rfl⟩)
  simpa using this
theorem tcnt_no {e : K3} : ∀ {m : Tl}, e ∉ keys3 m → tcnt e m = 0
  | [], _ => rfl
  | (a, n) :: r, h => by
    simp only [keys3, List.map_cons, List.mem_cons, not_or] at h
    rw [tcnt, if_neg h.1]; exact tcnt_no h.2
theorem tput_perm {e : K3} {v : Int} : ∀ {m : Tl}, (keys3 m).Nodup → (tput e v m).Perm ((e, v) :: tdel e m)
  | [], _ => List.Perm.refl _
  | (a, n) :: r, h => by
    have h' := List.nodup_cons.1 (show ((a :: keys3 r).Nodup) from h)
    rw [tput]
    by_cases he : e = a
    · subst he
      rw [if_pos rfl, tdel, List.filter_cons_of_neg (by simp)]
      exact ((tdel_no h'.1).symm ▸ List.Perm.refl _ : ((e, v) :: r).Perm ((e, v) :: tdel e r))
    · rw [if_neg he, tdel, List.filter_cons_of_pos (by simp; exact fun h => he h.symm)]
      exact ((tput_perm h'.2).cons _).trans (List.Perm.swap _ _ _)
theorem rins_perm {e : K3} : ∀ {m : Tl}, (keys3 m).Pairwise lt3 → (rins e m).Perm ((e, tcnt e m + 1) :: tdel e m)
  | [], _ => List.Perm.refl _
  | (a, n) :: r, h => by
    have h' : (∀ q ∈ keys3 r, lt3 a q) ∧ (keys3 r).Pairwise lt3 := List.pairwise_cons.1 h
    rw [rins]
    by_cases h1 : lt3 a e
    · have he : e ≠ a := fun h => lt3_irrefl a (h ▸ h1)
      rw [if_pos h1, tcnt, if_neg he, tdel, List.filter_cons_of_pos (by simp; exact fun h => he h.symm)]
      exact ((rins_perm h'.2).cons _).trans (List.Perm.swap _ _ _)
    · rw [if_neg h1]
      by_cases h2 : lt3 e a
      · have hn : e ∉ keys3 ((a, n) :: r) := fun hm => by
          rcases List.mem_cons.1 (show e ∈ a :: keys3 r from hm) with hm | hm
          · exact lt3_irrefl a (hm ▸ h2)
          · exact lt3_irrefl e (lt3_trans h2 (h'.1 e hm))
        rw [if_pos h2, tcnt_no hn, tdel_no hn]; exact List.Perm.refl _
      · have he : a = e := lt3_tri h1 h2
        subst he
        have hn : a ∉ keys3 r := fun hm => lt3_irrefl a (h'.1 a hm)
        rw [if_neg h2, tcnt, if_pos rfl, tdel, List.filter_cons_of_neg (by simp)]
        exact ((tdel_no hn).symm ▸ List.Perm.refl _ : ((a, n + 1) :: r).Perm ((a, n + 1) :: tdel a r))
theorem rins_keys (e : K3) : ∀ (m : Tl), ∀ q ∈ keys3 (rins e m), q = e ∨ q ∈ keys3 m
  | [], q, h => by simp [rins, keys3] at h; exact .inl h
  | (a, n) :: r, q, h => by
    rw [rins] at h
    split at h
    · rcases List.mem_cons.1 (show q ∈ a :: keys3 (rins e r) from h) with h | h
      · exact .inr (h ▸ List.mem_cons_self)
      · rcases rins_keys e r q h with h | h
        · exact .inl h
        · exact .inr (List.mem_cons_of_mem _ h)
    · split at h
      · rcases List.mem_cons.1 (show q ∈ e :: keys3 ((a, n) :: r) from h) with h | h
        · exact .inl h
        · exact .inr h
      · exact .inr h
theorem rins_sorted {e : K3} : ∀ {m : Tl}, (keys3 m).Pairwise lt3 → (keys3 (rins e m)).Pairwise lt3
  | [], _ => by simp [rins, keys3]
  | (a, n) :: r, h => by
    have h' : (∀ q ∈ keys3 r, lt3 a q) ∧ (keys3 r).Pairwise lt3 := List.pairwise_cons.1 h
    rw [rins]
    by_cases h1 : lt3 a e
    · rw [if_pos h1]
      refine List.pairwise_cons.2 ⟨fun q hq => ?_, rins_sorted h'.2⟩
      rcases rins_keys e r q hq with hq | hq
      · rw [hq]; exact h1
      · exact h'.1 q hq
    · rw [if_neg h1]
      by_cases h2 : lt3 e a
      · rw [if_pos h2]
        refine List.pairwise_cons.2 ⟨fun q hq => ?_, h⟩
        rcases List.mem_cons.1 (show q ∈ a :: keys3 r from hq) with hq | hq
        · rw [hq]; exact h2
        · exact lt3_trans h2 (h'.1 q hq)
      · rw [if_neg h2]; exact h
theorem tput_keys (e : K3) (v : Int) : ∀ (m : Tl), ∀ q ∈ keys3 (tput e v m), q = e ∨ q ∈ keys3 m
  | [], q, h => by simp [tput, keys3] at h; exact .inl h
  | (a, n) :: r, q, h => by
    rw [tput] at h
    split at h
    · rcases List.mem_cons.1 (show q ∈ e :: keys3 r from h) with h | h
      · exact .inl h
      · exact .inr (List.mem_cons_of_mem _ h)
    · rcases List.mem_cons.1 (show q ∈ a :: keys3 (tput e v r) from h) with h | h
      · exact .inr (h ▸ List.mem_cons_self)
      · rcases tput_keys e v r q h with h | h
        · exact .inl h
        · exact .inr (List.mem_cons_of_mem _ h)
theorem tput_nd {e : K3} {v : Int} : ∀ {m : Tl}, (keys3 m).Nodup → (keys3 (tput e v m)).Nodup
  | [], _ => by simp [tput, keys3]
  | (a, n) :: r, h => by
    have h' := List.nodup_cons.1 (show ((a :: keys3 r).Nodup) from h)
    rw [tput]
    by_cases he : e = a
    · subst he; rw [if_pos rfl]; exact h
    · rw [if_neg he]
      refine List.nodup_cons.2 ⟨fun hm => ?_, tput_nd h'.2⟩
      rcases tput_keys e v r a hm with h | h
      · exact he h.symm
      · exact h'.1 h
theorem sorted3_nd {l : List K3} (h : l.Pairwise lt3) : l.Nodup := h.imp (fun {a b} hab e => by subst e; exact lt3_irrefl _ hab)
theorem tcnt_mem {m : Tl} (hd : (keys3 m).Nodup) {e : K3} {n : Int} (h : (e, n) ∈ m) : tcnt e m = n := by
  induction m with
  | nil => cases h
  | cons x r ih =>
    obtain ⟨a, k⟩ := x
    have h' := List.nodup_cons.1 (show ((a :: keys3 r).Nodup) from hd)
    rw [tcnt]
    rcases List.mem_cons.1 h with h | h
    · cases h; rw [if_pos rfl]
    · have : e ≠ a := fun he => h'.1 (he ▸ List.mem_map.2 ⟨(e, n), h, rfl⟩)
      rw [if_neg this]; exact ih h'.2 h
theorem tcnt_perm {m o : Tl} (hp : m.Perm o) (hm : (keys3 m).Nodup) (e : K3) : tcnt e m = tcnt e o := by
  have ho : (keys3 o).Nodup := (hp.map _).nodup_iff.1 hm
  by_cases he : e ∈ keys3 m
  · obtain ⟨⟨a, n⟩, hx, rfl⟩ := List.mem_map.1 he
    rw [tcnt_mem hm hx, tcnt_mem ho (hp.mem_iff.1 hx)]
  · rw [tcnt_no he, tcnt_no (fun h => he ((hp.map _).mem_iff.2 h))]
/-- Both tallies: the program's, as it came, and the reference's, in order. -/
structure Ty (m o : Tl) : Prop where
  p : m.Perm o
  s : (keys3 o).Pairwise lt3
theorem Ty.nd {m o : Tl} (h : Ty m o) : (keys3 m).Nodup := (h.p.map _).nodup_iff.2 (sorted3_nd h.s)
theorem Ty.zero : Ty [] [] := ⟨List.Perm.refl _, by simp [keys3]⟩
theorem Ty.step {m o : Tl} (h : Ty m o) (e : K3) : Ty (tbump e m) (rins e o) := by
  refine ⟨?_, rins_sorted h.s⟩
  refine (tput_perm h.nd).trans ?_
  rw [tcnt_perm h.p h.nd]
  exact (List.Perm.cons _ (h.p.filter _)).trans (rins_perm h.s).symm
def e3 (x : Ent) : K3 := (x.k, x.s, x.e)
def tlP (l : List Ent) : Tl := l.foldl (fun m x => tbump (e3 x) m) []
def tlR (l : List Ent) : Tl := l.foldl (fun m x => rins (e3 x) m) []
theorem tlP_snoc (l : List Ent) (x : Ent) : tlP (l ++ [x]) = tbump (e3 x) (tlP l) := by simp [tlP]
theorem tlR_snoc (l : List Ent) (x : Ent) : tlR (l ++ [x]) = rins (e3 x) (tlR l) := by simp [tlR]
theorem fold_snoc {α : Type} {q : List α → Prop} (h0 : q []) (hs : ∀ l x, q l → q (l ++ [x])) (l : List α) : q l := by
  have : ∀ (n : Nat), n ≤ l.length → q (l.take n) := fun n => by
    induction n with
    | zero => intro _; simpa using h0
    | succ n ih =>
      intro hn
      have hx := List.getElem?_eq_getElem (show n < l.length by omega)
      rw [List.take_add_one, hx]
      exact hs _ _ (ih (by omega))
  simpa using this l.length (Nat.le_refl _)
theorem ty_tl (l : List Ent) : Ty (tlP l) (tlR l) :=
  fold_snoc (q := fun l => Ty (tlP l) (tlR l)) Ty.zero (fun l x h => by rw [tlP_snoc, tlR_snoc]; exact h.step _) l
theorem tput_len (e : K3) (v : Int) : ∀ m : Tl, (tput e v m).length ≤ m.length + 1
  | [] => by simp [tput]
  | (a, n) :: r => by
    have := tput_len e v r
    rw [tput]; split <;> simp <;> omega
theorem tlP_len (l : List Ent) : (tlP l).length ≤ l.length :=
  fold_snoc (q := fun l => (tlP l).length ≤ l.length) (Nat.le_refl _) (fun l x h => by
    rw [tlP_snoc, List.length_append]
    have := tput_len (e3 x) (tcnt (e3 x) (tlP l) + 1) (tlP l)
    show (tput _ _ _).length ≤ _
    simp; omega) l
theorem tlR_len (l : List Ent) : (tlR l).length ≤ l.length := by
  rw [← (ty_tl l).p.length_eq]; exact tlP_len l
def TlB (m : Tl) (n : Int) : Prop := ∀ x ∈ m, 0 ≤ x.2 ∧ x.2 ≤ n
theorem tcnt_bd {e : K3} {n : Int} (hn : 0 ≤ n) : ∀ {m : Tl}, TlB m n → 0 ≤ tcnt e m ∧ tcnt e m ≤ n
  | [], _ => by simp [tcnt]; omega
  | (a, k) :: r, h => by
    rw [tcnt]; split
    · exact h (a, k) (by simp)
    · exact tcnt_bd hn (fun x hx => h x (by simp [hx]))
theorem tput_bd {e : K3} {v n : Int} (hv : 0 ≤ v ∧ v ≤ n) : ∀ {m : Tl}, TlB m n → TlB (tput e v m) n
  | [], _ => fun x hx => by simp [tput] at hx; subst hx; exact hv
  | (a, k) :: r, h => by
    rw [tput]; split
    · intro x hx
      rcases List.mem_cons.1 hx with rfl | hx
      · exact hv
      · exact h x (by simp [hx])
    · intro x hx
      rcases List.mem_cons.1 hx with rfl | hx
      · exact h (a, k) (by simp)
      · exact tput_bd hv (fun y hy => h y (by simp [hy])) x hx
theorem tlP_bd (l : List Ent) : TlB (tlP l) l.length :=
  fold_snoc (q := fun l => TlB (tlP l) (l.length : Int)) (fun x hx => by cases hx) (fun l x h => by
    rw [tlP_snoc]
    have := tcnt_bd (e := e3 x) (by omega) h
    exact tput_bd (by simp; omega) (fun y hy => by have := h y hy; simp; omega)) l
theorem tlR_bd (l : List Ent) : TlB (tlR l) l.length := fun x hx => tlP_bd l x ((ty_tl l).p.mem_iff.2 hx)
theorem rins_at {e : K3} : ∀ {o : Tl} {k : Nat}, (∀ j, j < k → ∀ x, o[j]? = some x → lt3 x.1 e) → k ≤ o.length →
    (∀ x, o[k]? = some x → ¬ lt3 x.1 e → ¬ lt3 e x.1 → rins e o = o.set k (x.1, x.2 + 1)) ∧ ((∀ x, o[k]? = some x → ¬ lt3 x.1 e ∧ lt3 e x.1) → rins e o = o.take k ++ (e, 1) :: o.drop k)
  | [], k, _, hk => by
    have : k = 0 := by simpa using hk
    subst this
    exact ⟨fun x hx => by simp at hx, fun _ => rfl⟩
  | (a, n) :: r, 0, _, _ => by
    refine ⟨fun x hx h1 h2 => ?_, fun h => ?_⟩
    · simp at hx; subst hx
      rw [rins, if_neg h1, if_neg h2]; rfl
    · obtain ⟨h1, h2⟩ := h (a, n) rfl
      rw [rins, if_neg h1, if_pos h2]; rfl
  | (a, n) :: r, k + 1, h, hk => by
    have h0 : lt3 a e := h 0 (by omega) (a, n) rfl
    have ih := rins_at (e := e) (o := r) (k := k) (fun j hj x hx => h (j + 1) (by omega) x (by simpa using hx)) (by simpa using hk)
    refine ⟨fun x hx h1 h2 => ?_, fun hh => ?_⟩
    · rw [rins, if_pos h0, ih.1 x (by simpa using hx) h1 h2]; rfl
    · rw [rins, if_pos h0, ih.2 (fun x hx => hh x (by simpa using hx))]; rfl
end Go.Proofs.Ytbdnebedmdoehaa

namespace Go.Proofs.Ytbdnebedmdoehaa
open Go.PK Go.Shelf Go.Sort
def cmp3 (p q : K3) : Int := orL [cmpI p.1 q.1, cmpI p.2.1 q.2.1, cmpI p.2.2 q.2.2]
theorem cmp3_neg (p q : K3) : cmp3 p q < 0 ↔ lt3 p q := by
  simp only [cmp3, orL, cmpI, lt3]
  repeat' split
  all_goals omega
theorem lt_cf3 (x y : K3) : ltOf cmp3 x y = decide (lt3 x y) := by
  rw [Bool.eq_iff_iff]
  simp [ltOf, cmp3_neg]
theorem swo3 : SWO (ltOf cmp3) where
  irrefl x := by rw [lt_cf3]; simpa using lt3_irrefl x
  trans x y z h1 h2 := by rw [lt_cf3] at *; simp at *; exact lt3_trans h1 h2
  ntrans x y z h1 h2 := by rw [lt_cf3] at *; simp at *; simp only [lt3] at *; omega
theorem tot3 (x y : K3) (h1 : ltOf cmp3 x y = false) (h2 : ltOf cmp3 y x = false) : x = y := by
  rw [lt_cf3] at h1 h2
  exact lt3_tri (by simpa using h1) (by simpa using h2)
def le3 (x y : K3) : Bool := !decide (lt3 y x)
theorem le_cf3 : (fun x y => !(ltOf cmp3) y x) = le3 := by
  funext x y
  rw [lt_cf3, le3]
theorem sort3_is {d l : List K3} (hp : d.Perm l) (hs : l.Pairwise lt3) : d.mergeSort le3 = l := by
  have h1 : (d.mergeSort le3).Pairwise fun x y => le3 x y = true := List.pairwise_mergeSort (fun a b c h1 h2 => by simp [le3] at *; simp only [lt3] at *; omega) (fun a b => by simp [le3]; simp only [lt3]; omega) _
  have h2 : l.Pairwise fun x y => le3 x y = true := hs.imp (fun {a b} hab => by simp [le3]; simp only [lt3] at *; omega)
  refine ((List.mergeSort_perm d le3).trans hp).eq_of_pairwise (le := fun x y => le3 x y = true) (fun x y _ _ h1 h2 => ?_) h1 h2
  simp [le3] at h1 h2
  exact lt3_tri h2 h1
/-- A line of a tally, its number told by its key. -/
def lnC (N : K3 → Int) (k : K3) : List Value := [.int .i64 k.1, .int .i64 k.2.1, .int .i64 k.2.2, .int .i64 (N k)]
def lnc (x : K3 × Int) : List Value := [.int .i64 x.1.1, .int .i64 x.1.2.1, .int .i64 x.1.2.2, .int .i64 x.2]
theorem tcmp_any (p q : K3) (a b : Int) : Spc Try.prog 64 #[.agg #[.int .i64 p.1, .int .i64 p.2.1, .int .i64 p.2.2, .int .i64 a], .agg #[.int .i64 q.1, .int .i64 q.2.1, .int .i64 q.2.2, .int .i64 b]] [] [] (Is (.int .i64 (cmp3 p q))) := by
  refine Spc.enter Try.func64 rfl rfl rfl (fun w0 hw0 => ?_)
  refine CW.seq (CW.region (ef := [0, 1]) (bk := []) (RL.box rfl rfl rfl rfl rfl rfl ?_))
  intro b1
  refine RL.box rfl rfl rfl rfl rfl rfl ?_
  intro b2
  refine RL.p rfl (RL.nil (NQ.seq (CW.seq (CW.freezeP (A := [_, _]) (B := []) (.take (.take .nil)) rfl (CW.regionD (Sq.of [0, 1, 2, 3, 4, 5, 6, 7, 8, 9, 10, 11, 12, 13, 14, 15, 16, 17]) [15] [] [0, 1, 2, 3, 4, 5, 6, 7, 8, 9, 10, 11, 12, 13, 14, 17] mixed (by kernel_rfl) ?_)))))
  refine RL.fieldAddr fa_105_0 rfl rfl rfl rfl (RL.loadTq Try.isAgg3 rfl rfl rfl rfl ?_)
  refine RL.fieldAddr fa_105_0 rfl rfl rfl rfl (RL.loadTq Try.isAgg3 rfl rfl rfl rfl ?_)
  refine RL.callTq (cmp_int p.1 q.1) Try.call66 rfl rfl rfl rfl ?_
  refine RL.fieldAddr fa_105_1 rfl rfl rfl rfl (RL.loadTq Try.isAgg3 rfl rfl rfl rfl ?_)
  refine RL.fieldAddr fa_105_1 rfl rfl rfl rfl (RL.loadTq Try.isAgg3 rfl rfl rfl rfl ?_)
  refine RL.callTq (cmp_int p.2.1 q.2.1) Try.call66 rfl rfl rfl rfl ?_
  refine RL.fieldAddr fa_105_2 rfl rfl rfl rfl (RL.loadTq Try.isAgg3 rfl rfl rfl rfl ?_)
  refine RL.fieldAddr fa_105_2 rfl rfl rfl rfl (RL.loadTq Try.isAgg3 rfl rfl rfl rfl ?_)
  refine RL.callTq (cmp_int p.2.2 q.2.2) Try.call66 rfl rfl rfl rfl ?_
  refine RL.buildSlice [_, _, _] Try.runUnderlying22 Try.sizeOf3 Try.zeroValue3 rfl rfl (by decide) (by decide) rfl rfl rfl rfl rfl rfl ?_
  intro b3
  refine RL.callv (or_any (some ⟨b3, 0, none⟩) 3 3 [cmpI p.1 q.1, cmpI p.2.1 q.2.1, cmpI p.2.2 q.2.2] rfl (by decide)) Try.call65 rfl rfl rfl rfl (.all (List.Mem.head _) rfl .nil) ?_
  refine RL.p rfl (RL.nil (NQ.seq (CW.ok [4] rfl (CW.ret ?_))))
  exact RQ.post (res1 rfl rfl) (Split.none _) ⟨rfl, rfl, rfl⟩
def Try.sortLn_ren : Go.Shelf.Ren := ⟨fun | 6 => 63 | 15 => 97 | 14 => 96 | 28 => 130 | 29 => 131 | 20 => 122 | 21 => 123 | 22 => 124 | 23 => 125 | 24 => 126 | 25 => 127 | 26 => 128 | 27 => 129 | 46 => 142 | 47 => 143 | 48 => 144 | 49 => 145 | 50 => 146 | 57 => 149 | n => n, fun | 22 => 97 | 24 => 105 | 25 => 149 | 3 => 3 | 39 => 220 | 0 => 0 | 53 => 207 | 55 => 31 | 4 => 4 | 46 => 264 | 45 => 263 | 50 => 268 | 5 => 5 | 9 => 9 | 66 => 290 | 70 => 294 | 76 => 307 | 77 => 308 | n => n, fun | n => n⟩
theorem Try.sortLn : Go.Proofs.SlLaysF0.n6 Try.prog Try.sortLn_ren := {
  mixed := by kernel_rfl
  f6 := ⟨Try.f63.name, by decide, Try.func63.trans (congrArg some (by kernel_rfl))⟩
  f14 := ⟨Try.f96.name, by decide, Try.func96.trans (congrArg some (by kernel_rfl))⟩
  f15 := Try.func97.trans (congrArg some (by kernel_rfl))
  f20 := ⟨Try.f122.name, by decide, Try.func122.trans (congrArg some (by kernel_rfl))⟩
  f21 := ⟨Try.f123.name, by decide, Try.func123.trans (congrArg some (by kernel_rfl))⟩
  f22 := ⟨Try.f124.name, by decide, Try.func124.trans (congrArg some (by kernel_rfl))⟩
  f23 := ⟨Try.f125.name, by decide, Try.func125.trans (congrArg some (by kernel_rfl))⟩
  f24 := ⟨Try.f126.name, by decide, Try.func126.trans (congrArg some (by kernel_rfl))⟩
  f25 := ⟨Try.f127.name, by decide, Try.func127.trans (congrArg some (by kernel_rfl))⟩
  f26 := ⟨Try.f128.name, by decide, Try.func128.trans (congrArg some (by kernel_rfl))⟩
  f27 := ⟨Try.f129.name, by decide, Try.func129.trans (congrArg some (by kernel_rfl))⟩
  f28 := Try.func130.trans (congrArg some (by kernel_rfl))
  f29 := Try.func131.trans (congrArg some (by kernel_rfl))
  f46 := ⟨Try.f142.name, by decide, Try.func142.trans (congrArg some (by kernel_rfl))⟩
  f47 := Try.func143.trans (congrArg some (by kernel_rfl))
  f48 := Try.func144.trans (congrArg some (by kernel_rfl))
  f49 := ⟨Try.f145.name, by decide, Try.func145.trans (congrArg some (by kernel_rfl))⟩
  f50 := ⟨Try.f146.name, by decide, Try.func146.trans (congrArg some (by kernel_rfl))⟩
  f57 := ⟨Try.f149.name, by decide, Try.func149.trans (congrArg some (by kernel_rfl))⟩
  t0 := Try.underlying0
  a0 := Try.isAgg0
  z0 := Try.sizeOf0
  v0 := Try.zeroValue0
  t3 := Try.underlying3
  a3 := Try.isAgg3
  z3 := Try.sizeOf3
  v3 := Try.zeroValue3
  t4 := Try.underlying4
  a4 := Try.isAgg4
  z4 := Try.sizeOf4
  v4 := Try.zeroValue4
  t5 := Try.underlying5
  a5 := Try.isAgg5
  z5 := Try.sizeOf5
  v5 := Try.zeroValue5
  t9 := Try.underlying9
  a9 := Try.isAgg9
  z9 := Try.sizeOf9
  v9 := Try.zeroValue9
  t22 := Try.underlying97
  a22 := Try.isAgg97
  z22 := Try.sizeOf97
  v22 := Try.zeroValue97
  t25 := Try.underlying149
  a25 := Try.isAgg149
  z25 := Try.sizeOf149
  v25 := Try.zeroValue149
  t39 := Try.underlying220
  a39 := Try.isAgg220
  z39 := Try.sizeOf220
  v39 := Try.zeroValue220
  t45 := Try.underlying263
  a45 := Try.isAgg263
  z45 := Try.sizeOf263
  v45 := Try.zeroValue263
  t46 := Try.underlying264
  a46 := Try.isAgg264
  z46 := Try.sizeOf264
  v46 := Try.zeroValue264
  t50 := Try.underlying268
  a50 := Try.isAgg268
  z50 := Try.sizeOf268
  v50 := Try.zeroValue268
  t53 := Try.underlying207
  a53 := Try.isAgg207
  z53 := Try.sizeOf207
  v53 := Try.zeroValue207
  t55 := Try.underlying31
  a55 := Try.isAgg31
  z55 := Try.sizeOf31
  v55 := Try.zeroValue31
  t66 := Try.underlying290
  a66 := Try.isAgg290
  z66 := Try.sizeOf290
  v66 := Try.zeroValue290
  t70 := Try.underlying294
  a70 := Try.isAgg294
  z70 := Try.sizeOf294
  v70 := Try.zeroValue294
  t76 := Try.underlying307
  a76 := Try.isAgg307
  z76 := Try.sizeOf307
  v76 := Try.zeroValue307
  t77 := Try.underlying308
  a77 := Try.isAgg308
  z77 := Try.sizeOf308
  v77 := Try.zeroValue308 }
theorem sortL_o (N : K3 → Int) (ob : Option Nat) (cap n : Nat) (d : List K3) (hn : d.length = n) (hb : n < 2305843009213693952) : Spc Try.prog 63 #[slO ob n cap, .func (.func 64) #[] #[]] [] [own ob cap 105 4 n (d.flatMap (lnC N))]
    (fun v I' H' => v = .tuple #[] ∧ I' = [] ∧ H' = [own ob cap 105 4 n ((d.mergeSort le3).flatMap (lnC N))]) := by
  have := sort_funcO (P := Try.prog) (f := 63) (g := 64) (lnC N) (k := 4) (by decide) (fun _ => rfl) cmp3
    (fun blk off cap d w h1 h2 h3 h4 => AnyQ.slices_SortFunc_total Try.sortLn 4 Try.isAgg105 Try.sizeOf105 (lnC N) (fun _ => rfl) (fun x v hv => by simp [lnC] at hv; rcases hv with rfl | rfl | rfl | rfl <;> rfl) cmp3 swo3 64 #[] blk off cap d w Try.call64 h1 h2 h3 h4 tot3)
    (fun cap w => AnyF.slices_SortFunc_none Try.sortLn none cap _ w)
    (fun x y => tcmp_any x y (N x) (N y)) ob cap n 105 d hn (by omega)
  rw [le_cf3] at this
  exact this
/-! ### The map -/
def wh (k : K3) : Value := .agg #[.int .i64 k.1, .int .i64 k.2.1, .int .i64 k.2.2]
def goodW (v : Value) : Prop := ∃ k, v = wh k
theorem wh_inj {p q : K3} : wh p = wh q ↔ p = q := by
  obtain ⟨a, b, e⟩ := p; obtain ⟨c, d, f⟩ := q
  simp [wh]
theorem same_wh (p q : K3) : same (wh p) (wh q) = (p.1 == q.1 && (p.2.1 == q.2.1 && p.2.2 == q.2.2)) := by
  rw [Bool.eq_iff_iff, same_iff, wh_inj]
  obtain ⟨a, b, e⟩ := p; obtain ⟨c, d, f⟩ := q
  simp
theorem keyW : KeyT Try.prog 145 goodW where
  desc := ⟨_, Try.runUnderlying145, fun a b _ _ => .inl (by cases a <;> cases b <;> rfl)⟩
  eq := by
    rintro _ _ ⟨⟨a, b, e⟩, rfl⟩ ⟨⟨c, d, f⟩, rfl⟩ w
    rw [same_wh]
    simp [wh, Op.equal, Op.maxDepth, run_equalIn_struct, Program.fieldsOf, Op.eqFields, Go.part, go_sem]
    by_cases h1 : a = c <;> by_cases h2 : b = d <;> by_cases h3 : e = f <;> simp [h1, h2, h3]
  chk := by
    rintro _ ⟨⟨a, b, c⟩, rfl⟩ e w
    have : ∀ n, (Instr.checkKey e (n + 2) 145 (.agg #[.int .i64 a, .int .i64 b, .int .i64 c])).run Try.prog w = .ok () w := by
      intro n
      simp [Instr.checkKey, Go.part, go_sem]
    exact this 9998
  bits := by
    rintro _ ⟨⟨a, b, c⟩, rfl⟩
    simp [wh, Instr.sameBits]
def encW (m : Tl) : List (Value × Value) := m.map fun x => (wh x.1, .int .i64 x.2)
theorem lookW (e : K3) : ∀ m : Tl, (lookV (wh e) (encW m)).getD (.int .i64 0) = .int .i64 (tcnt e m)
  | [] => rfl
  | (a, n) :: r => by
    have ih := lookW e r
    simp only [encW] at ih
    by_cases h : e = a
    · subst h; simp [encW, lookV, tcnt]
    · have h' : ¬ wh e = wh a := fun e => h (wh_inj.1 e)
      simp [encW, lookV, tcnt, h, h', ih]
theorem setW (e : K3) (v : Int) : ∀ m : Tl, setV (wh e) (.int .i64 v) (encW m) = encW (tput e v m)
  | [] => rfl
  | (a, n) :: r => by
    have ih := setW e v r
    simp only [encW] at ih
    by_cases h : e = a
    · subst h; simp [encW, setV, tput]
    · have h' : ¬ wh e = wh a := fun e => h (wh_inj.1 e)
      simp [encW, setV, tput, h, h', ih]
theorem tput_tput (e : K3) (u v : Int) : ∀ m : Tl, tput e v (tput e u m) = tput e v m
  | [] => by simp [tput]
  | (a, n) :: r => by
    by_cases h : e = a
    · subst h; simp [tput]
    · simp [tput, h, tput_tput e u v r]
theorem tcnt_tput (e : K3) (u : Int) : ∀ m : Tl, tcnt e (tput e u m) = u
  | [] => by simp [tput, tcnt]
  | (a, n) :: r => by
    by_cases h : e = a
    · subst h; simp [tput, tcnt]
    · simp [tput, tcnt, h, tcnt_tput e u r]
theorem lookW2 (e : K3) (m : Tl) : (lookV (wh e) (setV (wh e) ((lookV (wh e) (encW m)).getD (.int .i64 0)) (encW m))).getD (.int .i64 0) = .int .i64 (tcnt e m) := by
  rw [lookW, setW, lookW, tcnt_tput]
theorem setW2 (e : K3) (m : Tl) : setV (wh e) (.int .i64 (tcnt e m + 1)) (setV (wh e) ((lookV (wh e) (encW m)).getD (.int .i64 0)) (encW m)) = encW (tbump e m) := by
  rw [lookW, setW, setW, tput_tput]; rfl
end Go.Proofs.Ytbdnebedmdoehaa

namespace Go.Proofs.Ytbdnebedmdoehaa
open Go.PK
theorem lnC_snoc (N : K3 → Int) (l : List K3) (k : K3) : (l ++ [k]).flatMap (lnC N) = l.flatMap (lnC N) ++ [.int .i64 k.1, .int .i64 k.2.1, .int .i64 k.2.2, .int .i64 (N k)] := by simp [lnC]
theorem lnC_lnc {N : K3 → Int} : ∀ {o : Tl}, (∀ x ∈ o, N x.1 = x.2) → (keys3 o).flatMap (lnC N) = o.flatMap lnc
  | [], _ => rfl
  | x :: o, h => by
    rw [keys3, List.map_cons, List.flatMap_cons, List.flatMap_cons]
    have := lnC_lnc (o := o) (fun y hy => h y (by simp [hy]))
    rw [keys3] at this
    rw [this, lnC, lnc, h x (by simp)]
def TallyR (U : TypeId) (l : List Ent) : Value → List It → List It → Prop := fun v I' H' => ∃ ob cap, v = slO ob (tlR l).length cap ∧ I' = [] ∧ H' = [own ob cap U 4 (tlR l).length ((tlR l).flatMap lnc)]
theorem ttally_any (p : Rep) (oa : Option Nat) (ca n : Nat) (h1 : p.fr.length = 32) (h2 : p.to.length = 32) (hn : p.L.length = n) (hl : n ≤ 1000000) :
    Spc Try.prog 33 #[.agg (p.cells (slO oa n ca)).toArray] [sls (oa.map fun b => ⟨b, 0, none⟩) 4 n (entsV p.L)] [] (TallyR 105 p.L) := by
  subst hn
  refine Spc.enter Try.func33 rfl rfl rfl (fun w0 hw0 => ?_)
  refine CW.seq (CW.region (ef := [0]) (bk := []) (RL.box rfl rfl rfl rfl rfl rfl ?_))
  intro b1
  refine RL.p rfl (RL.nil (NQ.seq (CW.seq (CW.freezeAll rfl ?_))))
  simp only [List.cons_append, List.nil_append]
  generalize hJ : ([cel b1 (p.cells (slO oa p.L.length ca)) 81, sls (oa.map fun b => ⟨b, 0, none⟩) 4 p.L.length (entsV p.L)] : List It) = J
  have m1 : cel b1 (p.cells (slO oa p.L.length ca)) 81 ∈ J := by rw [← hJ]; exact (by repeat (first | exact List.Mem.head _ | apply List.Mem.tail))
  have m2 : sls (oa.map fun b => ⟨b, 0, none⟩) 4 p.L.length (entsV p.L) ∈ J := by rw [← hJ]; exact (by repeat (first | exact List.Mem.head _ | apply List.Mem.tail))
  clear hJ
  have f2 : RdI J ⟨b1, 0 + 65, none⟩ (slO oa p.L.length ca) := ⟨fun _ => Rd.getI m1 (rep_sl h1 h2)⟩
  refine CW.region (ef := [0]) (bk := []) ?_
  refine RL.makeMap (good := goodW) rfl rfl rfl rfl (fun mp => ?_)
  refine RL.p rfl (RL.nil (NQ.seq (CW.seq (CW.seq (CW.rg (RL.fieldAddr fa_81_3 rfl rfl rfl rfl (RL.loadq Try.isAgg79 rfl rfl rfl rfl ?_)))))))
  refine RL.lenS Try.runUnderlying79 rfl rfl rfl rfl (RL.p rfl (RL.nil (NQ.seq (CW.block ?_))))
  refine CW.loop (γ := Nat) (fun i => i ≤ p.L.length) (fun i => [(3, .map (some mp)), (11, slO oa p.L.length ca), (12, .int .i64 (p.L.length : Int)), (13, .int .i64 (i : Int))])
    (fun _ => J) (fun i => [mapI mp goodW (encW (tlP (p.L.take i)))]) (fun i => p.L.length - i) 0 (Nat.zero_le _) (.cons rfl (.cons rfl (.cons rfl (.cons rfl .nil)))) (fun w h => h.rea (fun _ h => h) (by repeat (first | exact Rea.nil | (apply Rea.cons; (solve | (repeat (first | exact Del.here | apply Del.there))))))) ?_
  intro i hi
  refine CW.fact (p := oa = none → p.L.length = 0) (fun w hC e => sls_nil (hC.s.i _ m2) (by rw [e]; rfl)) (fun hpa => ?_)
  have htb := tlP_bd (p.L.take i)
  have hty := tlP_snoc (p.L.take i)
  rw [List.length_take, Nat.min_eq_left hi] at htb
  generalize hm : tlP (p.L.take i) = m at *
  refine CW.seq (CW.rg (RL.p rfl (RL.nil (NQ.seq (CW.seq ?_)))))
  refine CW.cond rfl (fun hlt => ?_) (fun hlt => ?_)
  ·
    have hlt : i < p.L.length := by simp at hlt; omega
    cases oa with
    | none => exact absurd (hpa rfl) (by omega)
    | some ba =>
    have hx := List.getElem?_eq_getElem hlt
    have htk : p.L.take (i + 1) = p.L.take i ++ [p.L[i]] := by rw [List.take_add_one, hx]; rfl
    generalize p.L[i] = x at hx htk
    have hty' := hty x
    rw [← htk] at hty'
    have hcb := tcnt_bd (e := e3 x) (by omega) htb
    have lk := lookW (e3 x) m
    have lk2 := lookW2 (e3 x) m
    refine CW.skip (NQ.seq (CW.seq ?_))
    refine CW.cutG (γ := Unit) (fun _ => True) (fun _ => [(3, .map (some mp)), (11, slO (some ba) p.L.length ca), (12, .int .i64 (p.L.length : Int)), (13, .int .i64 (i : Int))]) (fun _ => J) (fun _ => [mapI mp goodW (encW (tbump (e3 x) m))]) ?_ ?_
    ·
      refine CW.block (CW.seq (CW.region (ef := [2, 3]) (bk := [3]) (RL.idxAt (j := i) Try.runUnderlying79 Try.sizeOf83 rfl rfl rfl rfl rfl rfl (hlt) (RL.loadN (vs := x.cells) Try.isAgg83 Try.sizeOf83 rfl rfl rfl rfl (ent_rds m2 hx) (RL.alloc Try.zeroValue83 rfl rfl rfl rfl rfl ?_)))))
      intro b2
      refine RL.store (vs := [_, _, _, _]) Try.sizeOf83 rfl rfl rfl rfl rfl rfl rfl rfl rfl (by repeat (first | exact Upd.here | apply Upd.there)) ?_
      refine RL.nil (NQ.seq (CW.regionD (.cons 0 (.cons 1 (.cons 2 (.cons 3 (.cons 4 (.cons 5 (.cons 6 (.cons 7 (.fork [8, 10] (fun k => (bif Nat.beq k 8 then (Sq.of [9, 10, 11, 12]) else (Sq.of [8, 9, 11, 12])))))))))))) [10, 12] [10, 12] [0, 1, 3, 5, 7, 9, 11] mixed (by kernel_rfl) ?_))
      refine RL.p rfl (RL.fieldAddr fa_83_1 rfl rfl rfl rfl (RL.loadq Try.isAgg3 rfl rfl rfl rfl ?_))
      refine RL.fieldAddr fa_83_2 rfl rfl rfl rfl (RL.loadq Try.isAgg3 rfl rfl rfl rfl ?_)
      refine RL.fieldAddr fa_83_3 rfl rfl rfl rfl (RL.loadq Try.isAgg3 rfl rfl rfl rfl ?_)
      refine RL.buildS [_, _, _] Try.zeroValue145 pl_145 rfl rfl rfl rfl rfl ?_
      refine RL.fork ⟨?_, ?_, trivial⟩
      ·
        first | (refine RL.lookup (key := wh (e3 x)) keyW Try.runUnderlying143 Try.zeroValue3 rfl rfl rfl rfl rfl ⟨e3 x, rfl⟩ (MapAt.own (by repeat (first | exact List.Mem.head _ | apply List.Mem.tail))) ?_; refine RL.cast (d := 25) rfl lk ?_) | (refine RL.lookup (key := wh (e3 x)) keyW Try.runUnderlying143 Try.zeroValue3 rfl rfl rfl rfl rfl ⟨e3 x, rfl⟩ (MapAt.entry (by repeat (first | exact List.Mem.head _ | apply List.Mem.tail))) ?_; refine RL.cast (d := 25) rfl lk2 ?_)
        refine RL.bx rfl (wrapV_i64 (by omega) (by omega)) ?_
        refine RL.mapEntry (key := wh (e3 x)) keyW Try.runUnderlying143 Try.zeroValue3 rfl rfl rfl rfl rfl rfl rfl ⟨e3 x, rfl⟩ (by repeat (first | exact List.Mem.head _ | apply List.Mem.tail)) (fun st => ⟨_, (by repeat (first | exact Upd.here | apply Upd.there)), ?_⟩)
        refine RL.p rfl (RL.entryStore rfl rfl rfl rfl rfl rfl rfl (by repeat (first | exact Upd.here | apply Upd.there)) ?_)
        rw [setW2]
        refine RL.nil (NQ.block ?_)
        exact NQ.midG () trivial (.cons rfl (.cons rfl (.cons rfl (.cons rfl .nil)))) (fun w h => h.rea (fun _ h => h) (by repeat (first | exact Rea.nil | (apply Rea.cons; (solve | (repeat (first | exact Del.here | apply Del.there)))))))
      ·
        refine RL.mapEntry (key := wh (e3 x)) keyW Try.runUnderlying143 Try.zeroValue3 rfl rfl rfl rfl rfl rfl rfl ⟨e3 x, rfl⟩ (by repeat (first | exact List.Mem.head _ | apply List.Mem.tail)) (fun st => ⟨_, (by repeat (first | exact Upd.here | apply Upd.there)), ?_⟩)
        first | (refine RL.lookup (key := wh (e3 x)) keyW Try.runUnderlying143 Try.zeroValue3 rfl rfl rfl rfl rfl ⟨e3 x, rfl⟩ (MapAt.own (by repeat (first | exact List.Mem.head _ | apply List.Mem.tail))) ?_; refine RL.cast (d := 25) rfl lk ?_) | (refine RL.lookup (key := wh (e3 x)) keyW Try.runUnderlying143 Try.zeroValue3 rfl rfl rfl rfl rfl ⟨e3 x, rfl⟩ (MapAt.entry (by repeat (first | exact List.Mem.head _ | apply List.Mem.tail))) ?_; refine RL.cast (d := 25) rfl lk2 ?_)
        refine RL.bx rfl (wrapV_i64 (by omega) (by omega)) ?_
        refine RL.p rfl (RL.entryStore rfl rfl rfl rfl rfl rfl rfl (by repeat (first | exact Upd.here | apply Upd.there)) ?_)
        rw [setW2]
        refine RL.nil (NQ.block ?_)
        exact NQ.midG () trivial (.cons rfl (.cons rfl (.cons rfl (.cons rfl .nil)))) (fun w h => h.rea (fun _ h => h) (by repeat (first | exact Rea.nil | (apply Rea.cons; (solve | (repeat (first | exact Del.here | apply Del.there)))))))
    rintro ⟨⟩ -
    refine CW.rg (RL.bx rfl (wrapV_i64 (by omega) (by omega)) ?_)
    refine RL.p rfl (RL.nil ?_)
    refine NQ.round (g := i) (i + 1) hlt (by show p.L.length - (i + 1) < p.L.length - i; omega) (.cons rfl (.cons rfl (.cons rfl (.cons rfl .nil)))) (fun w h => ?_)
    rw [hty']
    exact h.rea (fun _ h => h) (by repeat (first | exact Rea.nil | (apply Rea.cons; (solve | (repeat (first | exact Del.here | apply Del.there))))))
  ·
    have hin : i = p.L.length := by simp at hlt; omega
    subst hin
    rw [List.take_length] at hm
    have hT := ty_tl p.L
    rw [hm] at hT
    generalize ho : tlR p.L = o at hT
    have hol : o.length ≤ p.L.length := by rw [← ho]; exact tlR_len p.L
    have hlen := hT.p.length_eq
    have hNo : ∀ x ∈ o, (fun k => tcnt k m) x.1 = x.2 := fun x hx => tcnt_mem hT.nd (hT.p.mem_iff.2 hx)
    refine CW.ownNone (e := 105) 4 (CW.exit (XQ.seq (XQ.seq (XQ.hit (NQ.seq (CW.seq (CW.rg (RL.p rfl (RL.nil (NQ.seq (CW.seq (CW.seq (CW.region (ef := [1]) (bk := [1]) ?_)))))))))))))
    refine RL.p rfl ?_
    refine RL.range Try.runUnderlying143 rfl rfl rfl rfl rfl rfl (by repeat (first | exact Pick.nil | apply Pick.take | apply Pick.leave)) (fun it => ?_)
    refine RL.nil (NQ.seq (CW.ok [6, 31] rfl (CW.block ?_)))
    refine CW.loop (γ := Tl × List K3 × Option Nat × Nat × Nat) (fun g => (g.2.1 ++ keys3 g.1).Perm (keys3 m) ∧ g.2.2.2.2 = g.2.1.length ∧ ∀ x ∈ g.1, x ∈ m) (fun g => [(6, slO g.2.2.1 g.2.2.2.2 g.2.2.2.1), (31, .pointer (some ⟨it, 0, none⟩))]) (fun _ => J)
      (fun g => [mapIt mp it goodW (encW m) (encW g.1), own g.2.2.1 g.2.2.2.1 105 4 g.2.2.2.2 (g.2.1.flatMap (lnC fun k => tcnt k m))]) (fun g => g.1.length) (m, [], none, 0, 0) ⟨List.Perm.refl _, rfl, fun x hx => hx⟩ (.cons rfl (.cons rfl .nil)) (fun w h => h.rea (fun _ h => h) (by repeat (first | exact Rea.nil | (apply Rea.cons; (solve | (repeat (first | exact Del.here | apply Del.there))))))) ?_
    rintro ⟨M, acc, ob, cp, n⟩ ⟨hp, hn, hM⟩
    dsimp only at hp hn hM ⊢
    have hlen2 : n + M.length = m.length := by
      have := hp.length_eq
      rw [List.length_append] at this
      simp [keys3] at this
      omega
    refine CW.seq (CW.region (ef := [0]) (bk := [0]) ?_)
    refine RL.nextC rfl rfl rfl rfl rfl rfl (.take (Pick.none _)) (fun hl0 => ?_) (fun q pp hq => ?_)
    · have hL : M = [] := by cases M with
        | nil => rfl
        | cons => cases hl0
      subst hL
      obtain rfl : n = m.length := by simpa using hlen2
      refine RL.p rfl (RL.nil (NQ.seq (CW.seq (CW.condF rfl ((by simp)) ?_))))
      refine CW.exit (XQ.seq (XQ.seq (XQ.hit (NQ.seq (CW.seq (CW.unrange (CW.region (ef := [1]) (bk := [1]) (RL.p rfl (RL.callq (sortL_o (fun k => tcnt k m) ob cp m.length acc hn.symm (by omega)) Try.call63 rfl rfl rfl rfl rfl (.inr rfl) ?_)))))))))
      rintro _ _ _ ⟨rfl, rfl, rfl⟩
      refine RL.nil (NQ.seq (CW.seq (CW.rg (RL.p rfl (RL.p rfl (RL.nil (NQ.seq (CW.ok [2] rfl (CW.ret ?_)))))))))
      have hs : acc.mergeSort le3 = keys3 o := sort3_is (by simpa [keys3] using hp.trans (hT.p.map Prod.fst)) hT.s
      rw [hs, lnC_lnc hNo, hlen]
      refine RQ.rea (fun _ h => h) (H' := [own ob cp 105 4 o.length (o.flatMap lnc)]) (by repeat (first | exact Rea.nil | (apply Rea.cons; (solve | (repeat (first | exact Del.here | apply Del.there)))))) ?_
      exact RQ.post (res1 rfl rfl) (.keep .nil) ⟨ob, cp, by rw [ho], rfl, by rw [ho]⟩
    ·
      obtain ⟨⟨k, v⟩, hq', rfl⟩ : ∃ x, M[q]? = some x ∧ (wh x.1, Value.int .i64 x.2) = pp := by
        rw [encW, List.getElem?_map] at hq
        cases hx : M[q]? with
        | none => rw [hx] at hq; cases hq
        | some x => rw [hx] at hq; exact ⟨x, rfl, by simpa using hq⟩
      have hv : v = tcnt k m := (tcnt_mem hT.nd (hM _ (List.mem_of_getElem? hq'))).symm
      have hsz : (M.eraseIdx q).length < M.length := by rw [List.length_eraseIdx_of_lt (List.getElem?_eq_some_iff.1 hq').1]; have := (List.getElem?_eq_some_iff.1 hq').1; omega
      have hpm : (keys3 M).Perm (k :: keys3 (M.eraseIdx q)) := (perm_erase' hq').map Prod.fst
      rw [show (encW M).eraseIdx q = encW (M.eraseIdx q) from (map_eraseIdx' _ _ _).symm]
      refine RL.p rfl (RL.nil (NQ.seq (CW.seq (CW.condT rfl ((by simp)) ?_))))
      refine CW.skip (NQ.seq (CW.block (CW.seq (CW.region (ef := [3, 4]) (bk := [4]) (RL.entry rfl rfl rfl rfl (List.Mem.head _) (RL.p rfl (RL.p rfl (RL.alloc Try.zeroValue145 rfl rfl rfl rfl rfl ?_))))))))
      intro b2
      refine RL.store (vs := [_, _, _]) Try.sizeOf145 rfl rfl rfl rfl rfl rfl rfl rfl rfl (by repeat (first | exact Upd.here | apply Upd.there)) ?_
      refine RL.p rfl (RL.nil (NQ.seq (CW.region (ef := [9, 10]) (bk := [10]) (RL.p rfl (RL.fieldAddr fa_145_0 rfl rfl rfl rfl (RL.loadq Try.isAgg3 rfl rfl rfl rfl ?_))))))
      refine RL.fieldAddr fa_145_1 rfl rfl rfl rfl (RL.loadq Try.isAgg3 rfl rfl rfl rfl ?_)
      refine RL.fieldAddr fa_145_2 rfl rfl rfl rfl (RL.loadq Try.isAgg3 rfl rfl rfl rfl ?_)
      refine RL.p rfl (RL.buildS [_, _, _, _] Try.zeroValue105 pl_105 rfl rfl rfl rfl rfl (RL.buildSlice [_, _, _, _] Try.runUnderlying97 Try.sizeOf105 Try.zeroValue105 rfl rfl (by decide) (by decide) rfl rfl rfl rfl rfl rfl ?_))
      intro b3
      refine RL.appendq el_97 rfl rfl rfl rfl rfl rfl rfl ?_
      intro ob1 cap1 ho1
      refine RL.p rfl (RL.nil (NQ.block ?_))
      subst hv
      refine NQ.round (g := (M, acc, ob, cp, n)) (M.eraseIdx q, acc ++ [k], ob1, cap1, n + 1) ⟨?_, by simp [hn], fun x hx => hM x (List.mem_of_mem_eraseIdx hx)⟩ hsz (.cons rfl (.cons rfl .nil)) (fun w h => (h.rea (H' := [mapCt mp it goodW (encW m) (encW (M.eraseIdx q)) (wh k, .int .i64 (tcnt k m)), own ob1 cap1 105 4 (n + 1) ((acc ++ [k]).flatMap (lnC fun k => tcnt k m))]) (fun _ h => h) (by simp only [lnC_snoc]; exact (by repeat (first | exact Rea.nil | (apply Rea.cons; (solve | (repeat (first | exact Del.here | apply Del.there)))))))).uncur)
      refine List.Perm.trans ?_ hp
      dsimp only
      rw [List.append_assoc]
      exact List.Perm.append_left _ hpm.symm
end Go.Proofs.Ytbdnebedmdoehaa

namespace Go.Proofs.Ytbdnebedmdoehaa
open Go.PK
theorem lnf_len (o : Tl) : (o.flatMap lnc).length = o.length * 4 := length_flat (fun _ _ => rfl)
theorem ln_cut {o : Tl} {i : Nat} (hi : i ≤ o.length) : (o.flatMap lnc).take (i * 4) = (o.take i).flatMap lnc ∧ (o.flatMap lnc).drop (i * 4) = (o.drop i).flatMap lnc := by
  have hl : ((o.take i).flatMap lnc).length = i * 4 := by rw [lnf_len, List.length_take, Nat.min_eq_left hi]
  have he : o.flatMap lnc = (o.take i).flatMap lnc ++ (o.drop i).flatMap lnc := by rw [← List.flatMap_append, List.take_append_drop]
  rw [he]
  exact ⟨List.take_left' hl, List.drop_left' hl⟩
theorem src_ownI {I H : List It} {ob : Option Nat} {cap sz nn : Nat} {e : TypeId} {xs : List Value} (hm : own ob cap e sz nn xs ∈ I) : Src I H (ob.map fun b => ⟨b, 0, none⟩) nn sz xs := fun w hw => by
  have h0 : (own ob cap e sz nn xs).A w := hw.i _ hm
  have hs : Sat [] [own ob cap e sz nn xs] w := ⟨by simp, by simpa using h0, by cases ob <;> simp [own], by simp⟩
  exact Src.own (I := []) (List.Mem.head _) w hs
theorem ln_src1 {I H : List It} {o : Tl} {ob : Option Nat} {cp i : Nat} {e : TypeId} (hi : i ≤ o.length) (hc : o.length ≤ cp) (hm : own ob cp e 4 o.length (o.flatMap lnc) ∈ I) :
    Src I H (if cp = 0 then ob.map (fun b => ⟨b, 0, none⟩) else (ob.map (fun b => (⟨b, 0, none⟩ : Addr))).map (·.add (0 * 4))) (i - 0) 4 ((o.take i).flatMap lnc) := by
  have := Src.sub (lo := 0) (hi := i) (cap := cp) (src_ownI (H := H) hm) (by omega) hi (by omega)
  rw [Nat.zero_mul, List.drop_zero, Nat.sub_zero, (ln_cut hi).1] at this
  simpa using this
theorem ln_src2 {I H : List It} {o : Tl} {ob : Option Nat} {cp i : Nat} {e : TypeId} (hi : i ≤ o.length) (hc : o.length ≤ cp) (hm : own ob cp e 4 o.length (o.flatMap lnc) ∈ I) :
    Src I H (if cp = i then ob.map (fun b => ⟨b, 0, none⟩) else (ob.map (fun b => (⟨b, 0, none⟩ : Addr))).map (·.add (i * 4))) (o.length - i) 4 ((o.drop i).flatMap lnc) := by
  have := Src.sub (lo := i) (hi := o.length) (cap := cp) (src_ownI (H := H) hm) hi (Nat.le_refl _) (by omega)
  rw [(ln_cut hi).2, List.take_of_length_le (by rw [lnf_len, List.length_drop]; exact Nat.le_refl _)] at this
  exact this
theorem ones_lns (o : Tl) : ∀ u ∈ o.flatMap lnc, u.oneCell' = true := fun u hu => by
  obtain ⟨x, -, hx⟩ := List.mem_flatMap.1 hu
  simp [lnc] at hx
  rcases hx with rfl | rfl | rfl | rfl <;> rfl
theorem ln_set {o : Tl} {i : Nat} {q : K3 × Int} (hi : o[i]? = some q) (x : Int) : spl (o.flatMap lnc) (i * 4 + 3) [.int .i64 x] = (o.set i (q.1, x)).flatMap lnc := by
  obtain ⟨hlt, hq⟩ := List.getElem?_eq_some_iff.1 hi
  obtain ⟨A, B, e, hA⟩ : ∃ A B, o = A ++ q :: B ∧ A.length = i := ⟨o.take i, o.drop (i + 1), by rw [← hq, ← List.drop_eq_getElem_cons hlt, List.take_append_drop], by rw [List.length_take]; omega⟩
  subst e
  have e1 : (A ++ q :: B).flatMap lnc = A.flatMap lnc ++ (lnc q ++ B.flatMap lnc) := by simp
  have e2 : ((A ++ q :: B).set i (q.1, x)).flatMap lnc = A.flatMap lnc ++ (lnc (q.1, x) ++ B.flatMap lnc) := by subst hA; simp
  rw [e1, e2, show i * 4 + 3 = (A.flatMap lnc).length + 3 by rw [lnf_len, hA], spl_app]
  congr 1
  simp only [lnc, List.cons_append, spl]
  congr 4
  show spl (B.flatMap lnc) 0 [] = B.flatMap lnc
  cases B.flatMap lnc <;> rfl
theorem ln_rd {I H : List It} {b cap i j n : Nat} {e : TypeId} {o : Tl} {x : K3 × Int} {v : Value} (hm : own (some b) cap e 4 n (o.flatMap lnc) ∈ H) (hx : o[i]? = some x) (hv : (lnc x)[j]? = some v) : Rd I H ⟨b, 0 + i * 4 + j, none⟩ v := by
  have := (own_rds (I := I) hm hx (fun _ _ => rfl)).rd hv
  rwa [add_none] at this
theorem set_len3 (o : Tl) (i : Nat) (q : K3 × Int) : (o.set i q).length = o.length := List.length_set
theorem rahead_any (p q : K3) (a b : Int) : Spc Try.prog 67 #[.agg (lnc (p, a)).toArray, .agg (lnc (q, b)).toArray] [] [] (Is (.bool (decide (lt3 p q)))) := by
  refine Spc.enter Try.func67 rfl rfl rfl (fun w0 hw0 => ?_)
  refine CW.seq (CW.region (ef := [0, 1]) (bk := []) (RL.box rfl rfl rfl rfl rfl rfl ?_))
  intro b1
  refine RL.box rfl rfl rfl rfl rfl rfl ?_
  intro b2
  refine RL.p rfl (RL.nil (NQ.seq (CW.seq (CW.rg (RL.fieldAddr fa_106_0 rfl rfl rfl rfl (RL.loadq Try.isAgg3 rfl rfl rfl rfl ?_))))))
  refine RL.fieldAddr fa_106_0 rfl rfl rfl rfl (RL.loadq Try.isAgg3 rfl rfl rfl rfl ?_)
  refine RL.p rfl (RL.p rfl ?_)
  apply RL.orB (d := 10) (dp := 37) (l' := (Sq.of [33])) rfl (sK [4] rfl)
  ·
    intro hb6 K6
    refine RL.fieldAddr fa_106_0 rfl rfl rfl rfl (RL.loadq Try.isAgg3 rfl rfl rfl rfl ?_)
    refine RL.fieldAddr fa_106_0 rfl rfl rfl rfl (RL.loadq Try.isAgg3 rfl rfl rfl rfl ?_)
    refine RL.p rfl (RL.p rfl ?_)
    apply RL.andB (d := 16) (dp := 36) (l' := (Sq.of [32, 33])) rfl (sK [4, 10] rfl)
    ·
      intro hb12 K12
      refine RL.fieldAddr fa_106_1 rfl rfl rfl rfl (RL.loadq Try.isAgg3 rfl rfl rfl rfl ?_)
      refine RL.fieldAddr fa_106_1 rfl rfl rfl rfl (RL.loadq Try.isAgg3 rfl rfl rfl rfl ?_)
      refine RL.p rfl (RL.p rfl ?_)
      apply RL.orB (d := 22) (dp := 35) (l' := (Sq.of [31, 32, 33])) rfl (sK [4, 10, 16] rfl)
      ·
        intro hb18 K18
        refine RL.fieldAddr fa_106_1 rfl rfl rfl rfl (RL.loadq Try.isAgg3 rfl rfl rfl rfl ?_)
        refine RL.fieldAddr fa_106_1 rfl rfl rfl rfl (RL.loadq Try.isAgg3 rfl rfl rfl rfl ?_)
        refine RL.p rfl (RL.p rfl ?_)
        apply RL.andB (d := 28) (dp := 34) (l' := (Sq.of [30, 31, 32, 33])) rfl (sK [4, 10, 16, 22] rfl)
        ·
          intro hb24 K24
          refine RL.fieldAddr fa_106_2 rfl rfl rfl rfl (RL.loadq Try.isAgg3 rfl rfl rfl rfl ?_)
          refine RL.fieldAddr fa_106_2 rfl rfl rfl rfl (RL.loadq Try.isAgg3 rfl rfl rfl rfl ?_)
          refine RL.p rfl (RL.p rfl ?_)
          exact K24 _ (.cons rfl (sK [4, 10, 16, 22] rfl))
        ·
          intro hb24 K24
          refine RL.p rfl (RL.p rfl (RL.p rfl (RL.p rfl (RL.p rfl (RL.p rfl ?_)))))
          exact K24 _ (.cons rfl (sK [4, 10, 16, 22] rfl))
        refine RL.p rfl ?_
        exact K18 _ (.cons rfl (sK [4, 10, 16] rfl))
      ·
        intro hb18 K18
        refine RL.p rfl (RL.p rfl (RL.p rfl (RL.p rfl (RL.p rfl (RL.p rfl (RL.p rfl (RL.p rfl (RL.p rfl (RL.p rfl (RL.p rfl (RL.p rfl (RL.p rfl ?_))))))))))))
        exact K18 _ (.cons rfl (sK [4, 10, 16] rfl))
      refine RL.p rfl ?_
      exact K12 _ (.cons rfl (sK [4, 10] rfl))
    ·
      intro hb12 K12
      refine RL.p rfl (RL.p rfl (RL.p rfl (RL.p rfl (RL.p rfl (RL.p rfl (RL.p rfl (RL.p rfl (RL.p rfl (RL.p rfl (RL.p rfl (RL.p rfl (RL.p rfl (RL.p rfl ?_)))))))))))))
      refine RL.p rfl (RL.p rfl (RL.p rfl (RL.p rfl (RL.p rfl (RL.p rfl ?_)))))
      exact K12 _ (.cons rfl (sK [4, 10] rfl))
    refine RL.p rfl ?_
    exact K6 _ (.cons rfl (sK [4] rfl))
  ·
    intro hb6 K6
    refine RL.p rfl (RL.p rfl (RL.p rfl (RL.p rfl (RL.p rfl (RL.p rfl (RL.p rfl (RL.p rfl (RL.p rfl (RL.p rfl (RL.p rfl (RL.p rfl (RL.p rfl (RL.p rfl ?_)))))))))))))
    refine RL.p rfl (RL.p rfl (RL.p rfl (RL.p rfl (RL.p rfl (RL.p rfl (RL.p rfl (RL.p rfl (RL.p rfl (RL.p rfl (RL.p rfl (RL.p rfl (RL.p rfl ?_))))))))))))
    exact K6 _ (.cons rfl (sK [4] rfl))
  refine RL.p rfl (RL.nil (NQ.seq (CW.ret ?_)))
  refine RQ.post (res1 rfl rfl) (Split.none _) ⟨?_, rfl, rfl⟩
  congr 1
  rw [Bool.eq_iff_iff, show (decide (lt3 p q) = true ↔ lt3 p q) from decide_eq_true_iff]
  simp [lt3]
theorem rtally_any (p : Rep) (oa : Option Nat) (ca n : Nat) (h1 : p.fr.length = 32) (h2 : p.to.length = 32) (hn : p.L.length = n) (hl : n ≤ 1000000) :
    Spc Try.prog 34 #[.agg (p.cells (slO oa n ca)).toArray] [sls (oa.map fun b => ⟨b, 0, none⟩) 4 n (entsV p.L)] [] (TallyR 106 p.L) := by
  subst hn
  refine Spc.enter Try.func34 rfl rfl rfl (fun w0 hw0 => ?_)
  refine CW.seq (CW.region (ef := [0]) (bk := []) (RL.box rfl rfl rfl rfl rfl rfl ?_))
  intro b1
  refine RL.p rfl (RL.nil (NQ.seq (CW.seq (CW.freezeAll rfl ?_))))
  simp only [List.cons_append, List.nil_append]
  generalize hJ : ([cel b1 (p.cells (slO oa p.L.length ca)) 93, sls (oa.map fun b => ⟨b, 0, none⟩) 4 p.L.length (entsV p.L)] : List It) = J
  have m1 : cel b1 (p.cells (slO oa p.L.length ca)) 93 ∈ J := by rw [← hJ]; exact (by repeat (first | exact List.Mem.head _ | apply List.Mem.tail))
  have m2 : sls (oa.map fun b => ⟨b, 0, none⟩) 4 p.L.length (entsV p.L) ∈ J := by rw [← hJ]; exact (by repeat (first | exact List.Mem.head _ | apply List.Mem.tail))
  clear hJ
  have f2 : RdI J ⟨b1, 0 + 65, none⟩ (slO oa p.L.length ca) := ⟨fun _ => Rd.getI m1 (rep_sl h1 h2)⟩
  refine CW.region (ef := [0]) (bk := []) (RL.buildOwn [] Try.runUnderlying99 Try.sizeOf106 Try.zeroValue106 rfl rfl (by decide) (by decide) rfl (by decide) rfl rfl rfl rfl rfl rfl ?_)
  intro oq
  refine RL.p rfl (RL.nil (NQ.seq (CW.seq (CW.seq (CW.rg (RL.p rfl (RL.nil (NQ.seq (CW.block ?_)))))))))
  refine CW.loop (γ := Nat × Option Nat × Nat × List It) (fun g => g.1 ≤ p.L.length ∧ ∀ y ∈ J, y ∈ g.2.2.2) (fun g => [(1, .pointer (some ⟨b1, 0, none⟩)), (3, slO g.2.1 (tlR (p.L.take g.1)).length g.2.2.1), (4, .int .i64 (g.1 : Int))])
    (fun g => g.2.2.2) (fun g => [own g.2.1 g.2.2.1 106 4 (tlR (p.L.take g.1)).length ((tlR (p.L.take g.1)).flatMap lnc)]) (fun g => p.L.length - g.1) (0, some oq, 0, J) ⟨Nat.zero_le _, fun _ h => h⟩ (.cons rfl (.cons rfl (.cons rfl .nil))) (fun w h => h.rea (fun _ h => h) (by repeat (first | exact Rea.nil | (apply Rea.cons; (solve | (repeat (first | exact Del.here | apply Del.there))))))) ?_
  rintro ⟨i, ob, cp, J1⟩ ⟨hi, hj⟩
  dsimp only at hi hj ⊢
  have htb := tlR_bd (p.L.take i)
  have htl := tlR_len (p.L.take i)
  have hty := tlR_snoc (p.L.take i)
  rw [List.length_take, Nat.min_eq_left hi] at htb htl
  generalize hm : tlR (p.L.take i) = o at *
  refine CW.fact (p := (oa = none → p.L.length = 0) ∧ (ob = none → o.length = 0) ∧ o.length ≤ cp) (fun w hC => ⟨fun e => sls_nil (hC.s.i _ (hj _ m2)) (by rw [e]; rfl), fun e => by subst e; exact own_none (hC.s.h (own none cp 106 4 o.length (o.flatMap lnc)) (by repeat (first | exact List.Mem.head _ | apply List.Mem.tail))), own_cap (hC.s.h (own ob cp 106 4 o.length (o.flatMap lnc)) (by repeat (first | exact List.Mem.head _ | apply List.Mem.tail)))⟩) (fun hno => ?_)
  have f21 : RdI J1 ⟨b1, 0 + 65, none⟩ (slO oa p.L.length ca) := ⟨fun _ => Rd.getI (hj _ m1) (rep_sl h1 h2)⟩
  refine CW.seq (CW.seq (CW.rg (RL.p rfl (RL.fieldAddr fa_93_3 rfl rfl rfl rfl (RL.loadq Try.isAgg91 rfl rfl rfl rfl ?_)))))
  refine RL.lenS Try.runUnderlying91 rfl rfl rfl rfl (RL.p rfl (RL.nil (NQ.seq ?_)))
  refine CW.cond rfl (fun hlt => ?_) (fun hlt => ?_)
  ·
    have hlt : i < p.L.length := by simp at hlt; omega
    cases oa with
    | none => exact absurd (hno.1 rfl) (by omega)
    | some ba =>
    have hx := List.getElem?_eq_getElem hlt
    have htk : p.L.take (i + 1) = p.L.take i ++ [p.L[i]] := by rw [List.take_add_one, hx]; rfl
    generalize p.L[i] = x at hx htk
    have hty' := hty x
    rw [← htk] at hty'
    have m21 := hj _ m2
    have a2 : RdI J1 ⟨ba, 0 + i * 4 + 1, none⟩ (.int .i64 x.k) := ⟨fun H => ent_rd m21 hx rfl⟩
    have a3 : RdI J1 ⟨ba, 0 + i * 4 + 2, none⟩ (.int .i64 x.s) := ⟨fun H => ent_rd m21 hx rfl⟩
    have a4 : RdI J1 ⟨ba, 0 + i * 4 + 3, none⟩ (.int .i64 x.e) := ⟨fun H => ent_rd m21 hx rfl⟩
    refine CW.skip (NQ.seq (CW.seq (CW.block (CW.seq (CW.regionD (Sq.of [0, 1, 2, 3, 4, 5, 6, 7, 8, 9, 10, 11, 12, 13, 14, 15, 16, 17, 18, 19, 20]) [19, 20] [20] [0, 1, 2, 3, 4, 5, 6, 7, 8, 9, 10, 11, 12, 13, 14, 15, 16, 17, 18] mixed (by kernel_rfl) ?_)))))
    refine RL.fieldAddr fa_93_3 rfl rfl rfl rfl (RL.loadTq Try.isAgg91 rfl rfl rfl rfl ?_)
    refine RL.p rfl (RL.idxAt (j := i) Try.runUnderlying91 Try.sizeOf87 rfl rfl rfl rfl rfl rfl (hlt) (RL.fieldAddr fa_87_1 rfl rfl rfl rfl (RL.loadTq Try.isAgg3 rfl rfl rfl rfl ?_)))
    refine RL.fieldAddr fa_93_3 rfl rfl rfl rfl (RL.loadTq Try.isAgg91 rfl rfl rfl rfl ?_)
    refine RL.p rfl (RL.idxAt (j := i) Try.runUnderlying91 Try.sizeOf87 rfl rfl rfl rfl rfl rfl (hlt) (RL.fieldAddr fa_87_2 rfl rfl rfl rfl (RL.loadTq Try.isAgg3 rfl rfl rfl rfl ?_)))
    refine RL.fieldAddr fa_93_3 rfl rfl rfl rfl (RL.loadTq Try.isAgg91 rfl rfl rfl rfl ?_)
    refine RL.p rfl (RL.idxAt (j := i) Try.runUnderlying91 Try.sizeOf87 rfl rfl rfl rfl rfl rfl (hlt) (RL.fieldAddr fa_87_3 rfl rfl rfl rfl (RL.loadTq Try.isAgg3 rfl rfl rfl rfl ?_)))
    refine RL.buildS [_, _, _, _] Try.zeroValue106 pl_106 rfl rfl rfl rfl rfl (RL.alloc Try.zeroValue106 rfl rfl rfl rfl rfl ?_)
    intro b2
    refine RL.storeW (vs := lnc (e3 x, 1)) Try.sizeOf106 rfl rfl rfl rfl rfl rfl rfl rfl (by repeat (first | exact Upd.here | apply Upd.there)) rfl rfl ?_
    refine RL.nil (NQ.seq (CW.ok [1, 3, 4, 5] rfl (CW.seq (CW.freezeP (A := [_]) (B := [_]) (.take (.leave .nil)) rfl ?_))))
    refine CW.genI (fun J2 hJ2 => ?_)
    have mL : cel b2 (lnc (e3 x, 1)) 106 ∈ J2 := hJ2 _ (by simp)
    have hJ12 : ∀ y ∈ J1, y ∈ J2 := fun y hy => hJ2 y (by simp [hy])
    clear hJ2
    have rL : RdsN J2 ⟨b2, 0, none⟩ 4 (lnc (e3 x, 1)) := ⟨fun _ => Rds.allI mL, rfl⟩
    refine CW.rg (RL.p rfl (RL.nil (NQ.seq (CW.seq ?_))))
    refine CW.cutG (γ := Nat) (fun k => k ≤ o.length ∧ (∀ j, j < k → ∀ y, o[j]? = some y → lt3 y.1 (e3 x)) ∧ ∀ y, o[k]? = some y → ¬ lt3 y.1 (e3 x)) (fun k => [(1, .pointer (some ⟨b1, 0, none⟩)), (3, slO ob o.length cp), (4, .int .i64 (i : Int)), (5, .pointer (some ⟨b2, 0, none⟩)), (6, .int .i64 (k : Int))]) (fun _ => J2) (fun _ => [own ob cp 106 4 o.length (o.flatMap lnc)]) ?_ ?_
    ·
      refine CW.block (CW.loop (γ := Nat) (fun k => k ≤ o.length ∧ ∀ j, j < k → ∀ y, o[j]? = some y → lt3 y.1 (e3 x)) (fun k => [(1, .pointer (some ⟨b1, 0, none⟩)), (3, slO ob o.length cp), (4, .int .i64 (i : Int)), (5, .pointer (some ⟨b2, 0, none⟩)), (6, .int .i64 (k : Int))]) (fun _ => J2) (fun _ => [own ob cp 106 4 o.length (o.flatMap lnc)]) (fun k => o.length - k) 0 ⟨Nat.zero_le _, fun j hj => absurd hj (by omega)⟩ (.cons rfl (.cons rfl (.cons rfl (.cons rfl (.cons rfl .nil))))) (fun w h => h) ?_)
      rintro k ⟨hk, hn⟩
      refine CW.seq (CW.seq (CW.regionD (Sq.of [0, 1, 2, 3, 4, 5, 6, 7, 8, 9, 10, 11]) [10] [] [0, 1, 2, 3, 4, 5, 6, 7, 11] mixed (by kernel_rfl) ?_))
      refine RL.p rfl (RL.p rfl (RL.lenS Try.runUnderlying99 rfl rfl rfl rfl (RL.p rfl (RL.p rfl ?_))))
      refine RL.part (d := 38) rfl (fun hlk => ?_) (fun hlk => ?_)
      ·
        have hlk : k < o.length := by simp at hlk; omega
        obtain ⟨bo, rfl⟩ : ∃ q, ob = some q := by
          cases ob with
          | none => exact absurd (hno.2.1 rfl) (by omega)
          | some q => exact ⟨q, rfl⟩
        have hy := List.getElem?_eq_getElem hlk
        generalize o[k] = y at hy
        obtain ⟨yk, yn⟩ := y
        refine RL.p rfl (RL.p rfl (RL.idxAt (j := k) Try.runUnderlying99 Try.sizeOf106 rfl rfl rfl rfl rfl rfl (hlk) (RL.loadN (vs := lnc (yk, yn)) Try.isAgg106 Try.sizeOf106 rfl rfl rfl rfl (own_rds (List.Mem.head _) hy (fun _ _ => rfl)) ?_)))
        refine RL.loadSq Try.isAgg106 Try.sizeOf106 rfl rfl rfl rfl ?_
        refine RL.callvq (rahead_any yk (e3 x) yn 1) Try.call67 rfl rfl rfl rfl ?_
        refine RL.p rfl (RL.nil (NQ.seq (CW.ok [1, 3, 4, 5, 6, 45] rfl ?_)))
        refine CW.cond rfl (fun ha => ?_) (fun ha => ?_)
        ·
          refine CW.skip (NQ.seq (CW.block (CW.rg (RL.p rfl (RL.bx rfl (wrapV_i64 (by omega) (by omega)) ?_)))))
          refine RL.p rfl (RL.nil (NQ.block ?_))
          have ha : lt3 yk (e3 x) := by simpa using ha
          refine NQ.round (g := k) (k + 1) ⟨hlk, fun j hj z hz => ?_⟩ (by show o.length - (k + 1) < o.length - k; omega) (.cons rfl (.cons rfl (.cons rfl (.cons rfl (.cons rfl .nil))))) (fun w h => h)
          by_cases hjk : j = k
          · subst hjk; rw [hy] at hz; cases hz; exact ha
          · exact hn j (by omega) z hz
        ·
          refine CW.exit (XQ.seq (XQ.seq (XQ.hit ?_)))
          have ha : ¬ lt3 yk (e3 x) := by simpa using ha
          exact NQ.midG k ⟨hk, hn, fun z hz => by rw [hy] at hz; cases hz; exact ha⟩ (.cons rfl (.cons rfl (.cons rfl (.cons rfl (.cons rfl .nil))))) (fun w h => h)
      ·
        have hkl : k = o.length := by simp at hlk; omega
        refine RL.p rfl (RL.p rfl (RL.p rfl (RL.p rfl (RL.p rfl (RL.p rfl (RL.p rfl (RL.nil (NQ.seq (CW.ok [1, 3, 4, 5, 6, 45] rfl (CW.condF rfl rfl (CW.exit (XQ.seq (XQ.seq ?_)))))))))))))
        refine XQ.hit ?_
        exact NQ.midG k ⟨hk, hn, fun z hz => by rw [List.getElem?_eq_none (by omega)] at hz; cases hz⟩ (.cons rfl (.cons rfl (.cons rfl (.cons rfl (.cons rfl .nil))))) (fun w h => h)
    rintro k ⟨hk, hn, hk2⟩
    have hat := rins_at hn hk
    refine CW.seq (CW.regionD (Sq.of [0, 1, 2, 3, 4, 5, 6, 7, 8, 9, 10, 11, 12]) [] [] [0, 1, 2, 3, 4, 6, 7, 8, 11, 12] mixed (by kernel_rfl) ?_)
    refine RL.p rfl (RL.p rfl (RL.lenS Try.runUnderlying99 rfl rfl rfl rfl (RL.p rfl (RL.p rfl ?_))))
    refine RL.part (d := 52) rfl (fun hkl => ?_) (fun hkl => ?_)
    ·
      have hkl : k < o.length := by simp at hkl; omega
      obtain ⟨bo, rfl⟩ : ∃ q, ob = some q := by
        cases ob with
        | none => exact absurd (hno.2.1 rfl) (by omega)
        | some q => exact ⟨q, rfl⟩
      have hy := List.getElem?_eq_getElem hkl
      have hyb := htb _ (List.getElem_mem hkl)
      generalize o[k] = y at hy hyb
      obtain ⟨yk, yn⟩ := y
      dsimp only at hyb
      have hk2y := hk2 _ hy
      refine RL.loadSq Try.isAgg106 Try.sizeOf106 rfl rfl rfl rfl ?_
      refine RL.p rfl (RL.p rfl (RL.idxAt (j := k) Try.runUnderlying99 Try.sizeOf106 rfl rfl rfl rfl rfl rfl (hkl) (RL.loadN (vs := lnc (yk, yn)) Try.isAgg106 Try.sizeOf106 rfl rfl rfl rfl (own_rds (List.Mem.head _) hy (fun _ _ => rfl)) ?_)))
      refine RL.callvq (rahead_any (e3 x) yk 1 yn) Try.call67 rfl rfl rfl rfl ?_
      refine RL.p rfl (RL.p rfl (RL.nil (NQ.seq (CW.ok [1, 3, 4, 5, 6, 60] rfl ?_))))
      refine CW.cond rfl (fun hb => ?_) (fun hb => ?_)
      ·
        refine CW.region (ef := [8]) (bk := [8]) (RL.p rfl (RL.p rfl (RL.idxAt (j := k) Try.runUnderlying99 Try.sizeOf106 rfl rfl rfl rfl rfl rfl (hkl) (RL.fieldAddr fa_106_3 rfl rfl rfl rfl (RL.load Try.isAgg3 rfl rfl rfl rfl (ln_rd (j := 3) (List.Mem.head _) hy rfl) (RL.bx rfl (wrapV_i64 (by omega) (by omega)) ?_))))))
        refine RL.idxAt (j := k) Try.runUnderlying99 Try.sizeOf106 rfl rfl rfl rfl rfl rfl (hkl) (RL.fieldAddr fa_106_3 rfl rfl rfl rfl (RL.storeO (off := k * 4 + 3) (vs := [_]) (ln_set hy _) Try.sizeOf3 rfl rfl rfl rfl rfl (by rw [add_none, Nat.add_assoc]) rfl rfl rfl (by rw [lnf_len]; simp; omega) (by repeat (first | exact Upd.here | apply Upd.there)) ?_))
        refine RL.nil (NQ.block (NQ.seq (CW.ok [1, 3, 4] rfl (CW.rg (RL.p rfl (RL.bx rfl (wrapV_i64 (by omega) (by omega)) ?_))))))
        refine RL.p rfl (RL.nil ?_)
        have hb : ¬ lt3 (e3 x) yk := by simpa using hb
        have hr := hat.1 _ hy hk2y hb
        have hrl : (rins (e3 x) o).length = o.length := by rw [hr, List.length_set]
        refine NQ.round (g := (i, some bo, cp, J1)) (i + 1, some bo, cp, J2) ⟨hlt, fun y hy => hJ12 _ (hj _ hy)⟩ (by show p.L.length - (i + 1) < p.L.length - i; omega) (.cons rfl (.cons (by dsimp only; rw [hty', hrl]; rfl) (.cons rfl .nil))) (fun w h => ?_)
        dsimp only
        rw [hty', hrl, hr]
        exact h.rea (fun _ h => h) (by repeat (first | exact Rea.nil | (apply Rea.cons; (solve | (repeat (first | exact Del.here | apply Del.there))))))
      ·
        have hb : lt3 (e3 x) yk := by simpa using hb
        have hr := hat.2 (fun z hz => by rw [hy] at hz; cases hz; exact ⟨hk2y, hb⟩)
        have hcp := hno.2.2
        have hrl : (rins (e3 x) o).length = 0 + (k - 0) + 1 + (o.length - k) := by rw [hr, List.length_append, List.length_cons, List.length_take, List.length_drop]; omega
        have hrf : (rins (e3 x) o).flatMap lnc = [] ++ (o.take k).flatMap lnc ++ lnc (e3 x, 1) ++ (o.drop k).flatMap lnc := by rw [hr]; simp
        refine CW.freezeP (A := [_]) (B := []) (.take .nil) rfl ?_
        refine CW.genI (fun J3 hJ3 => ?_)
        have mO : own (some bo) cp 106 4 o.length (o.flatMap lnc) ∈ J3 := hJ3 _ (by simp)
        have hJ23 : ∀ y ∈ J2, y ∈ J3 := fun y hy => hJ3 y (by simp [hy])
        clear hJ3
        have rL3 : RdsN J3 ⟨b2, 0, none⟩ 4 (lnc (e3 x, 1)) := ⟨fun _ => Rds.allI (hJ23 _ mL), rfl⟩
        refine CW.regionD (.cons 1 (.cons 2 (.cons 3 (.cons 5 (.cons 8 (.cons 9 (.cons 10 (.fork [0, 6] (fun k => (bif Nat.beq k 0 then (.fork [4, 6] (fun k => (bif Nat.beq k 4 then (Sq.of [6, 7, 11, 12]) else (Sq.of [4, 7, 11, 12])))) else (Sq.of [0, 4, 7, 11, 12]))))))))))) [0, 4, 6, 7, 11] [4, 7, 11] [1, 2, 3, 5, 8, 9, 10, 12] mixed (by kernel_rfl) ?_
        refine RL.p rfl (RL.p rfl (RL.slice (lo := 0) (hi := k) Try.runUnderlying99 Try.sizeOf106 rfl rfl rfl rfl rfl rfl (by omega) (by omega) ?_))
        refine RL.loadSTq Try.isAgg106 Try.sizeOf106 rfl rfl rfl rfl ?_
        refine RL.p rfl (RL.p rfl (RL.slice (lo := k) (hi := o.length) Try.runUnderlying99 Try.sizeOf106 rfl rfl rfl rfl rfl rfl (by omega) (by omega) ?_))
        refine RL.fork ⟨?_, ?_, trivial⟩
        ·
          refine RL.buildOwn [] Try.runUnderlying99 Try.sizeOf106 Try.zeroValue106 rfl rfl (by decide) (by decide) rfl (by decide) rfl rfl rfl rfl rfl rfl ?_
          intro b3
          refine RL.fork ⟨?_, ?_, trivial⟩
          ·
            refine RL.appendA el_99 rfl rfl rfl rfl rfl rfl rfl (by first | exact ⟨(.take (Pick.none _)), rfl⟩ | exact ⟨(.leave (.take (Pick.none _))), rfl⟩ | exact ⟨(.leave (.leave (.take (Pick.none _)))), rfl⟩ | exact ⟨(.leave (.leave (.leave (.take (Pick.none _))))), rfl⟩ | exact ⟨(.leave (.leave (.leave (.leave (.take (Pick.none _)))))), rfl⟩ | exact ⟨(.leave (.leave (.leave (.leave (.leave (.take (Pick.none _))))))), rfl⟩ | exact ⟨(.leave (.leave (.leave (.leave (.leave (.leave (.take (Pick.none _)))))))), rfl⟩ | exact ⟨(.leave (.leave (.leave (.leave (.leave (.leave (.leave (.take (Pick.none _))))))))), rfl⟩ | exact ⟨(.leave (.leave (.leave (.leave (.leave (.leave (.leave (.leave (.take (Pick.none _)))))))))), rfl⟩ | exact ⟨(.leave (.leave (.leave (.leave (.leave (.leave (.leave (.leave (.leave (.take (Pick.none _))))))))))), rfl⟩) (ln_src1 hk hcp mO) (ones_lns _) (by first | omega | (simp only [maxLen]; omega)) (by first | omega | (simp only [maxLen]; omega)) ?_
            intro ob1 cap1 ho1
            refine RL.buildSlice (lnc (e3 x, 1)) Try.runUnderlying99 Try.sizeOf106 Try.zeroValue106 rfl rfl (by decide) (by decide) rfl rfl rfl rfl rfl rfl ?_
            intro b4
            refine RL.appendA el_99 rfl rfl rfl rfl rfl rfl rfl (by first | exact ⟨(.take (Pick.none _)), rfl⟩ | exact ⟨(.leave (.take (Pick.none _))), rfl⟩ | exact ⟨(.leave (.leave (.take (Pick.none _)))), rfl⟩ | exact ⟨(.leave (.leave (.leave (.take (Pick.none _))))), rfl⟩ | exact ⟨(.leave (.leave (.leave (.leave (.take (Pick.none _)))))), rfl⟩ | exact ⟨(.leave (.leave (.leave (.leave (.leave (.take (Pick.none _))))))), rfl⟩ | exact ⟨(.leave (.leave (.leave (.leave (.leave (.leave (.take (Pick.none _)))))))), rfl⟩ | exact ⟨(.leave (.leave (.leave (.leave (.leave (.leave (.leave (.take (Pick.none _))))))))), rfl⟩ | exact ⟨(.leave (.leave (.leave (.leave (.leave (.leave (.leave (.leave (.take (Pick.none _)))))))))), rfl⟩ | exact ⟨(.leave (.leave (.leave (.leave (.leave (.leave (.leave (.leave (.leave (.take (Pick.none _))))))))))), rfl⟩) (Src.cel (cs := lnc (e3 x, 1)) (by repeat (first | exact List.Mem.head _ | apply List.Mem.tail)) rfl) (fun u hu => by simp [lnc] at hu; rcases hu with rfl | rfl | rfl | rfl <;> rfl) (by first | omega | (simp only [maxLen]; omega)) (by first | omega | (simp only [maxLen]; omega)) ?_
            intro ob2 cap2 ho2
            refine RL.appendA el_99 rfl rfl rfl rfl rfl rfl rfl (by first | exact ⟨(.take (Pick.none _)), rfl⟩ | exact ⟨(.leave (.take (Pick.none _))), rfl⟩ | exact ⟨(.leave (.leave (.take (Pick.none _)))), rfl⟩ | exact ⟨(.leave (.leave (.leave (.take (Pick.none _))))), rfl⟩ | exact ⟨(.leave (.leave (.leave (.leave (.take (Pick.none _)))))), rfl⟩ | exact ⟨(.leave (.leave (.leave (.leave (.leave (.take (Pick.none _))))))), rfl⟩ | exact ⟨(.leave (.leave (.leave (.leave (.leave (.leave (.take (Pick.none _)))))))), rfl⟩ | exact ⟨(.leave (.leave (.leave (.leave (.leave (.leave (.leave (.take (Pick.none _))))))))), rfl⟩ | exact ⟨(.leave (.leave (.leave (.leave (.leave (.leave (.leave (.leave (.take (Pick.none _)))))))))), rfl⟩ | exact ⟨(.leave (.leave (.leave (.leave (.leave (.leave (.leave (.leave (.leave (.take (Pick.none _))))))))))), rfl⟩) (ln_src2 hk hcp mO) (ones_lns _) (by first | omega | (simp only [maxLen]; omega)) (by first | omega | (simp only [maxLen]; omega)) ?_
            intro ob3 cap3 ho3
            refine RL.p rfl (RL.nil (NQ.block (NQ.seq (CW.ok [1, 3, 4] rfl (CW.rg (RL.p rfl (RL.bx rfl (wrapV_i64 (by omega) (by omega)) ?_)))))))
            refine RL.p rfl (RL.nil ?_)
            refine NQ.round (g := (i, some bo, cp, J1)) (i + 1, ob3, cap3, J3) ⟨hlt, fun y hy => hJ23 _ (hJ12 _ (hj _ hy))⟩ (by show p.L.length - (i + 1) < p.L.length - i; omega) (.cons rfl (.cons (by dsimp only; rw [hty', hrl]; rfl) (.cons rfl .nil))) (fun w h => (by dsimp only; rw [hty', hrl, hrf]; exact h.rea (fun _ h => h) (by repeat (first | exact Rea.nil | (apply Rea.cons; (solve | (repeat (first | exact Del.here | apply Del.there))))))))
          ·
            refine RL.buildSlice (lnc (e3 x, 1)) Try.runUnderlying99 Try.sizeOf106 Try.zeroValue106 rfl rfl (by decide) (by decide) rfl rfl rfl rfl rfl rfl ?_
            intro b4
            refine RL.appendA el_99 rfl rfl rfl rfl rfl rfl rfl (by first | exact ⟨(.take (Pick.none _)), rfl⟩ | exact ⟨(.leave (.take (Pick.none _))), rfl⟩ | exact ⟨(.leave (.leave (.take (Pick.none _)))), rfl⟩ | exact ⟨(.leave (.leave (.leave (.take (Pick.none _))))), rfl⟩ | exact ⟨(.leave (.leave (.leave (.leave (.take (Pick.none _)))))), rfl⟩ | exact ⟨(.leave (.leave (.leave (.leave (.leave (.take (Pick.none _))))))), rfl⟩ | exact ⟨(.leave (.leave (.leave (.leave (.leave (.leave (.take (Pick.none _)))))))), rfl⟩ | exact ⟨(.leave (.leave (.leave (.leave (.leave (.leave (.leave (.take (Pick.none _))))))))), rfl⟩ | exact ⟨(.leave (.leave (.leave (.leave (.leave (.leave (.leave (.leave (.take (Pick.none _)))))))))), rfl⟩ | exact ⟨(.leave (.leave (.leave (.leave (.leave (.leave (.leave (.leave (.leave (.take (Pick.none _))))))))))), rfl⟩) (ln_src1 hk hcp mO) (ones_lns _) (by first | omega | (simp only [maxLen]; omega)) (by first | omega | (simp only [maxLen]; omega)) ?_
            intro ob1 cap1 ho1
            refine RL.appendA el_99 rfl rfl rfl rfl rfl rfl rfl (by first | exact ⟨(.take (Pick.none _)), rfl⟩ | exact ⟨(.leave (.take (Pick.none _))), rfl⟩ | exact ⟨(.leave (.leave (.take (Pick.none _)))), rfl⟩ | exact ⟨(.leave (.leave (.leave (.take (Pick.none _))))), rfl⟩ | exact ⟨(.leave (.leave (.leave (.leave (.take (Pick.none _)))))), rfl⟩ | exact ⟨(.leave (.leave (.leave (.leave (.leave (.take (Pick.none _))))))), rfl⟩ | exact ⟨(.leave (.leave (.leave (.leave (.leave (.leave (.take (Pick.none _)))))))), rfl⟩ | exact ⟨(.leave (.leave (.leave (.leave (.leave (.leave (.leave (.take (Pick.none _))))))))), rfl⟩ | exact ⟨(.leave (.leave (.leave (.leave (.leave (.leave (.leave (.leave (.take (Pick.none _)))))))))), rfl⟩ | exact ⟨(.leave (.leave (.leave (.leave (.leave (.leave (.leave (.leave (.leave (.take (Pick.none _))))))))))), rfl⟩) (Src.cel (cs := lnc (e3 x, 1)) (by repeat (first | exact List.Mem.head _ | apply List.Mem.tail)) rfl) (fun u hu => by simp [lnc] at hu; rcases hu with rfl | rfl | rfl | rfl <;> rfl) (by first | omega | (simp only [maxLen]; omega)) (by first | omega | (simp only [maxLen]; omega)) ?_
            intro ob2 cap2 ho2
            refine RL.appendA el_99 rfl rfl rfl rfl rfl rfl rfl (by first | exact ⟨(.take (Pick.none _)), rfl⟩ | exact ⟨(.leave (.take (Pick.none _))), rfl⟩ | exact ⟨(.leave (.leave (.take (Pick.none _)))), rfl⟩ | exact ⟨(.leave (.leave (.leave (.take (Pick.none _))))), rfl⟩ | exact ⟨(.leave (.leave (.leave (.leave (.take (Pick.none _)))))), rfl⟩ | exact ⟨(.leave (.leave (.leave (.leave (.leave (.take (Pick.none _))))))), rfl⟩ | exact ⟨(.leave (.leave (.leave (.leave (.leave (.leave (.take (Pick.none _)))))))), rfl⟩ | exact ⟨(.leave (.leave (.leave (.leave (.leave (.leave (.leave (.take (Pick.none _))))))))), rfl⟩ | exact ⟨(.leave (.leave (.leave (.leave (.leave (.leave (.leave (.leave (.take (Pick.none _)))))))))), rfl⟩ | exact ⟨(.leave (.leave (.leave (.leave (.leave (.leave (.leave (.leave (.leave (.take (Pick.none _))))))))))), rfl⟩) (ln_src2 hk hcp mO) (ones_lns _) (by first | omega | (simp only [maxLen]; omega)) (by first | omega | (simp only [maxLen]; omega)) ?_
            intro ob3 cap3 ho3
            refine RL.p rfl (RL.nil (NQ.block (NQ.seq (CW.ok [1, 3, 4] rfl (CW.rg (RL.p rfl (RL.bx rfl (wrapV_i64 (by omega) (by omega)) ?_)))))))
            refine RL.p rfl (RL.nil ?_)
            refine NQ.round (g := (i, some bo, cp, J1)) (i + 1, ob3, cap3, J3) ⟨hlt, fun y hy => hJ23 _ (hJ12 _ (hj _ hy))⟩ (by show p.L.length - (i + 1) < p.L.length - i; omega) (.cons rfl (.cons (by dsimp only; rw [hty', hrl]; rfl) (.cons rfl .nil))) (fun w h => (by dsimp only; rw [hty', hrl, hrf]; exact h.rea (fun _ h => h) (by repeat (first | exact Rea.nil | (apply Rea.cons; (solve | (repeat (first | exact Del.here | apply Del.there))))))))
        ·
          refine RL.buildSlice (lnc (e3 x, 1)) Try.runUnderlying99 Try.sizeOf106 Try.zeroValue106 rfl rfl (by decide) (by decide) rfl rfl rfl rfl rfl rfl ?_
          intro b4
          refine RL.buildOwn [] Try.runUnderlying99 Try.sizeOf106 Try.zeroValue106 rfl rfl (by decide) (by decide) rfl (by decide) rfl rfl rfl rfl rfl rfl ?_
          intro b3
          refine RL.appendA el_99 rfl rfl rfl rfl rfl rfl rfl (by first | exact ⟨(.take (Pick.none _)), rfl⟩ | exact ⟨(.leave (.take (Pick.none _))), rfl⟩ | exact ⟨(.leave (.leave (.take (Pick.none _)))), rfl⟩ | exact ⟨(.leave (.leave (.leave (.take (Pick.none _))))), rfl⟩ | exact ⟨(.leave (.leave (.leave (.leave (.take (Pick.none _)))))), rfl⟩ | exact ⟨(.leave (.leave (.leave (.leave (.leave (.take (Pick.none _))))))), rfl⟩ | exact ⟨(.leave (.leave (.leave (.leave (.leave (.leave (.take (Pick.none _)))))))), rfl⟩ | exact ⟨(.leave (.leave (.leave (.leave (.leave (.leave (.leave (.take (Pick.none _))))))))), rfl⟩ | exact ⟨(.leave (.leave (.leave (.leave (.leave (.leave (.leave (.leave (.take (Pick.none _)))))))))), rfl⟩ | exact ⟨(.leave (.leave (.leave (.leave (.leave (.leave (.leave (.leave (.leave (.take (Pick.none _))))))))))), rfl⟩) (ln_src1 hk hcp mO) (ones_lns _) (by first | omega | (simp only [maxLen]; omega)) (by first | omega | (simp only [maxLen]; omega)) ?_
          intro ob1 cap1 ho1
          refine RL.appendA el_99 rfl rfl rfl rfl rfl rfl rfl (by first | exact ⟨(.take (Pick.none _)), rfl⟩ | exact ⟨(.leave (.take (Pick.none _))), rfl⟩ | exact ⟨(.leave (.leave (.take (Pick.none _)))), rfl⟩ | exact ⟨(.leave (.leave (.leave (.take (Pick.none _))))), rfl⟩ | exact ⟨(.leave (.leave (.leave (.leave (.take (Pick.none _)))))), rfl⟩ | exact ⟨(.leave (.leave (.leave (.leave (.leave (.take (Pick.none _))))))), rfl⟩ | exact ⟨(.leave (.leave (.leave (.leave (.leave (.leave (.take (Pick.none _)))))))), rfl⟩ | exact ⟨(.leave (.leave (.leave (.leave (.leave (.leave (.leave (.take (Pick.none _))))))))), rfl⟩ | exact ⟨(.leave (.leave (.leave (.leave (.leave (.leave (.leave (.leave (.take (Pick.none _)))))))))), rfl⟩ | exact ⟨(.leave (.leave (.leave (.leave (.leave (.leave (.leave (.leave (.leave (.take (Pick.none _))))))))))), rfl⟩) (Src.cel (cs := lnc (e3 x, 1)) (by repeat (first | exact List.Mem.head _ | apply List.Mem.tail)) rfl) (fun u hu => by simp [lnc] at hu; rcases hu with rfl | rfl | rfl | rfl <;> rfl) (by first | omega | (simp only [maxLen]; omega)) (by first | omega | (simp only [maxLen]; omega)) ?_
          intro ob2 cap2 ho2
          refine RL.appendA el_99 rfl rfl rfl rfl rfl rfl rfl (by first | exact ⟨(.take (Pick.none _)), rfl⟩ | exact ⟨(.leave (.take (Pick.none _))), rfl⟩ | exact ⟨(.leave (.leave (.take (Pick.none _)))), rfl⟩ | exact ⟨(.leave (.leave (.leave (.take (Pick.none _))))), rfl⟩ | exact ⟨(.leave (.leave (.leave (.leave (.take (Pick.none _)))))), rfl⟩ | exact ⟨(.leave (.leave (.leave (.leave (.leave (.take (Pick.none _))))))), rfl⟩ | exact ⟨(.leave (.leave (.leave (.leave (.leave (.leave (.take (Pick.none _)))))))), rfl⟩ | exact ⟨(.leave (.leave (.leave (.leave (.leave (.leave (.leave (.take (Pick.none _))))))))), rfl⟩ | exact ⟨(.leave (.leave (.leave (.leave (.leave (.leave (.leave (.leave (.take (Pick.none _)))))))))), rfl⟩ | exact ⟨(.leave (.leave (.leave (.leave (.leave (.leave (.leave (.leave (.leave (.take (Pick.none _))))))))))), rfl⟩) (ln_src2 hk hcp mO) (ones_lns _) (by first | omega | (simp only [maxLen]; omega)) (by first | omega | (simp only [maxLen]; omega)) ?_
          intro ob3 cap3 ho3
          refine RL.p rfl (RL.nil (NQ.block (NQ.seq (CW.ok [1, 3, 4] rfl (CW.rg (RL.p rfl (RL.bx rfl (wrapV_i64 (by omega) (by omega)) ?_)))))))
          refine RL.p rfl (RL.nil ?_)
          refine NQ.round (g := (i, some bo, cp, J1)) (i + 1, ob3, cap3, J3) ⟨hlt, fun y hy => hJ23 _ (hJ12 _ (hj _ hy))⟩ (by show p.L.length - (i + 1) < p.L.length - i; omega) (.cons rfl (.cons (by dsimp only; rw [hty', hrl]; rfl) (.cons rfl .nil))) (fun w h => (by dsimp only; rw [hty', hrl, hrf]; exact h.rea (fun _ h => h) (by repeat (first | exact Rea.nil | (apply Rea.cons; (solve | (repeat (first | exact Del.here | apply Del.there))))))))
    ·
      have hkl : k = o.length := by simp at hkl; omega
      have hr := hat.2 (fun z hz => by rw [List.getElem?_eq_none (by omega)] at hz; cases hz)
      have hcp := hno.2.2
      refine RL.p rfl (RL.p rfl (RL.p rfl (RL.p rfl (RL.p rfl (RL.p rfl (RL.p rfl (RL.p rfl (RL.nil (NQ.seq (CW.ok [1, 3, 4, 5, 6, 60] rfl (CW.condF rfl rfl ?_)))))))))))
      have hrl : (rins (e3 x) o).length = 0 + (k - 0) + 1 + (o.length - k) := by rw [hr, List.length_append, List.length_cons, List.length_take, List.length_drop]; omega
      have hrf : (rins (e3 x) o).flatMap lnc = [] ++ (o.take k).flatMap lnc ++ lnc (e3 x, 1) ++ (o.drop k).flatMap lnc := by rw [hr]; simp
      refine CW.freezeP (A := [_]) (B := []) (.take .nil) rfl ?_
      refine CW.genI (fun J3 hJ3 => ?_)
      have mO : own (ob) cp 106 4 o.length (o.flatMap lnc) ∈ J3 := hJ3 _ (by simp)
      have hJ23 : ∀ y ∈ J2, y ∈ J3 := fun y hy => hJ3 y (by simp [hy])
      clear hJ3
      have rL3 : RdsN J3 ⟨b2, 0, none⟩ 4 (lnc (e3 x, 1)) := ⟨fun _ => Rds.allI (hJ23 _ mL), rfl⟩
      refine CW.regionD (.cons 1 (.cons 2 (.cons 3 (.cons 5 (.cons 8 (.cons 9 (.cons 10 (.fork [0, 6] (fun k => (bif Nat.beq k 0 then (.fork [4, 6] (fun k => (bif Nat.beq k 4 then (Sq.of [6, 7, 11, 12]) else (Sq.of [4, 7, 11, 12])))) else (Sq.of [0, 4, 7, 11, 12]))))))))))) [0, 4, 6, 7, 11] [4, 7, 11] [1, 2, 3, 5, 8, 9, 10, 12] mixed (by kernel_rfl) ?_
      refine RL.p rfl (RL.p rfl (RL.slice (lo := 0) (hi := k) Try.runUnderlying99 Try.sizeOf106 rfl rfl rfl rfl rfl rfl (by omega) (by omega) ?_))
      refine RL.loadSTq Try.isAgg106 Try.sizeOf106 rfl rfl rfl rfl ?_
      refine RL.p rfl (RL.p rfl (RL.slice (lo := k) (hi := o.length) Try.runUnderlying99 Try.sizeOf106 rfl rfl rfl rfl rfl rfl (by omega) (by omega) ?_))
      refine RL.fork ⟨?_, ?_, trivial⟩
      ·
        refine RL.buildOwn [] Try.runUnderlying99 Try.sizeOf106 Try.zeroValue106 rfl rfl (by decide) (by decide) rfl (by decide) rfl rfl rfl rfl rfl rfl ?_
        intro b3
        refine RL.fork ⟨?_, ?_, trivial⟩
        ·
          refine RL.appendA el_99 rfl rfl rfl rfl rfl rfl rfl (by first | exact ⟨(.take (Pick.none _)), rfl⟩ | exact ⟨(.leave (.take (Pick.none _))), rfl⟩ | exact ⟨(.leave (.leave (.take (Pick.none _)))), rfl⟩ | exact ⟨(.leave (.leave (.leave (.take (Pick.none _))))), rfl⟩ | exact ⟨(.leave (.leave (.leave (.leave (.take (Pick.none _)))))), rfl⟩ | exact ⟨(.leave (.leave (.leave (.leave (.leave (.take (Pick.none _))))))), rfl⟩ | exact ⟨(.leave (.leave (.leave (.leave (.leave (.leave (.take (Pick.none _)))))))), rfl⟩ | exact ⟨(.leave (.leave (.leave (.leave (.leave (.leave (.leave (.take (Pick.none _))))))))), rfl⟩ | exact ⟨(.leave (.leave (.leave (.leave (.leave (.leave (.leave (.leave (.take (Pick.none _)))))))))), rfl⟩ | exact ⟨(.leave (.leave (.leave (.leave (.leave (.leave (.leave (.leave (.leave (.take (Pick.none _))))))))))), rfl⟩) (ln_src1 hk hcp mO) (ones_lns _) (by first | omega | (simp only [maxLen]; omega)) (by first | omega | (simp only [maxLen]; omega)) ?_
          intro ob1 cap1 ho1
          refine RL.buildSlice (lnc (e3 x, 1)) Try.runUnderlying99 Try.sizeOf106 Try.zeroValue106 rfl rfl (by decide) (by decide) rfl rfl rfl rfl rfl rfl ?_
          intro b4
          refine RL.appendA el_99 rfl rfl rfl rfl rfl rfl rfl (by first | exact ⟨(.take (Pick.none _)), rfl⟩ | exact ⟨(.leave (.take (Pick.none _))), rfl⟩ | exact ⟨(.leave (.leave (.take (Pick.none _)))), rfl⟩ | exact ⟨(.leave (.leave (.leave (.take (Pick.none _))))), rfl⟩ | exact ⟨(.leave (.leave (.leave (.leave (.take (Pick.none _)))))), rfl⟩ | exact ⟨(.leave (.leave (.leave (.leave (.leave (.take (Pick.none _))))))), rfl⟩ | exact ⟨(.leave (.leave (.leave (.leave (.leave (.leave (.take (Pick.none _)))))))), rfl⟩ | exact ⟨(.leave (.leave (.leave (.leave (.leave (.leave (.leave (.take (Pick.none _))))))))), rfl⟩ | exact ⟨(.leave (.leave (.leave (.leave (.leave (.leave (.leave (.leave (.take (Pick.none _)))))))))), rfl⟩ | exact ⟨(.leave (.leave (.leave (.leave (.leave (.leave (.leave (.leave (.leave (.take (Pick.none _))))))))))), rfl⟩) (Src.cel (cs := lnc (e3 x, 1)) (by repeat (first | exact List.Mem.head _ | apply List.Mem.tail)) rfl) (fun u hu => by simp [lnc] at hu; rcases hu with rfl | rfl | rfl | rfl <;> rfl) (by first | omega | (simp only [maxLen]; omega)) (by first | omega | (simp only [maxLen]; omega)) ?_
          intro ob2 cap2 ho2
          refine RL.appendA el_99 rfl rfl rfl rfl rfl rfl rfl (by first | exact ⟨(.take (Pick.none _)), rfl⟩ | exact ⟨(.leave (.take (Pick.none _))), rfl⟩ | exact ⟨(.leave (.leave (.take (Pick.none _)))), rfl⟩ | exact ⟨(.leave (.leave (.leave (.take (Pick.none _))))), rfl⟩ | exact ⟨(.leave (.leave (.leave (.leave (.take (Pick.none _)))))), rfl⟩ | exact ⟨(.leave (.leave (.leave (.leave (.leave (.take (Pick.none _))))))), rfl⟩ | exact ⟨(.leave (.leave (.leave (.leave (.leave (.leave (.take (Pick.none _)))))))), rfl⟩ | exact ⟨(.leave (.leave (.leave (.leave (.leave (.leave (.leave (.take (Pick.none _))))))))), rfl⟩ | exact ⟨(.leave (.leave (.leave (.leave (.leave (.leave (.leave (.leave (.take (Pick.none _)))))))))), rfl⟩ | exact ⟨(.leave (.leave (.leave (.leave (.leave (.leave (.leave (.leave (.leave (.take (Pick.none _))))))))))), rfl⟩) (ln_src2 hk hcp mO) (ones_lns _) (by first | omega | (simp only [maxLen]; omega)) (by first | omega | (simp only [maxLen]; omega)) ?_
          intro ob3 cap3 ho3
          refine RL.p rfl (RL.nil (NQ.block (NQ.seq (CW.ok [1, 3, 4] rfl (CW.rg (RL.p rfl (RL.bx rfl (wrapV_i64 (by omega) (by omega)) ?_)))))))
          refine RL.p rfl (RL.nil ?_)
          refine NQ.round (g := (i, ob, cp, J1)) (i + 1, ob3, cap3, J3) ⟨hlt, fun y hy => hJ23 _ (hJ12 _ (hj _ hy))⟩ (by show p.L.length - (i + 1) < p.L.length - i; omega) (.cons rfl (.cons (by dsimp only; rw [hty', hrl]; rfl) (.cons rfl .nil))) (fun w h => (by dsimp only; rw [hty', hrl, hrf]; exact h.rea (fun _ h => h) (by repeat (first | exact Rea.nil | (apply Rea.cons; (solve | (repeat (first | exact Del.here | apply Del.there))))))))
        ·
          refine RL.buildSlice (lnc (e3 x, 1)) Try.runUnderlying99 Try.sizeOf106 Try.zeroValue106 rfl rfl (by decide) (by decide) rfl rfl rfl rfl rfl rfl ?_
          intro b4
          refine RL.appendA el_99 rfl rfl rfl rfl rfl rfl rfl (by first | exact ⟨(.take (Pick.none _)), rfl⟩ | exact ⟨(.leave (.take (Pick.none _))), rfl⟩ | exact ⟨(.leave (.leave (.take (Pick.none _)))), rfl⟩ | exact ⟨(.leave (.leave (.leave (.take (Pick.none _))))), rfl⟩ | exact ⟨(.leave (.leave (.leave (.leave (.take (Pick.none _)))))), rfl⟩ | exact ⟨(.leave (.leave (.leave (.leave (.leave (.take (Pick.none _))))))), rfl⟩ | exact ⟨(.leave (.leave (.leave (.leave (.leave (.leave (.take (Pick.none _)))))))), rfl⟩ | exact ⟨(.leave (.leave (.leave (.leave (.leave (.leave (.leave (.take (Pick.none _))))))))), rfl⟩ | exact ⟨(.leave (.leave (.leave (.leave (.leave (.leave (.leave (.leave (.take (Pick.none _)))))))))), rfl⟩ | exact ⟨(.leave (.leave (.leave (.leave (.leave (.leave (.leave (.leave (.leave (.take (Pick.none _))))))))))), rfl⟩) (ln_src1 hk hcp mO) (ones_lns _) (by first | omega | (simp only [maxLen]; omega)) (by first | omega | (simp only [maxLen]; omega)) ?_
          intro ob1 cap1 ho1
          refine RL.appendA el_99 rfl rfl rfl rfl rfl rfl rfl (by first | exact ⟨(.take (Pick.none _)), rfl⟩ | exact ⟨(.leave (.take (Pick.none _))), rfl⟩ | exact ⟨(.leave (.leave (.take (Pick.none _)))), rfl⟩ | exact ⟨(.leave (.leave (.leave (.take (Pick.none _))))), rfl⟩ | exact ⟨(.leave (.leave (.leave (.leave (.take (Pick.none _)))))), rfl⟩ | exact ⟨(.leave (.leave (.leave (.leave (.leave (.take (Pick.none _))))))), rfl⟩ | exact ⟨(.leave (.leave (.leave (.leave (.leave (.leave (.take (Pick.none _)))))))), rfl⟩ | exact ⟨(.leave (.leave (.leave (.leave (.leave (.leave (.leave (.take (Pick.none _))))))))), rfl⟩ | exact ⟨(.leave (.leave (.leave (.leave (.leave (.leave (.leave (.leave (.take (Pick.none _)))))))))), rfl⟩ | exact ⟨(.leave (.leave (.leave (.leave (.leave (.leave (.leave (.leave (.leave (.take (Pick.none _))))))))))), rfl⟩) (Src.cel (cs := lnc (e3 x, 1)) (by repeat (first | exact List.Mem.head _ | apply List.Mem.tail)) rfl) (fun u hu => by simp [lnc] at hu; rcases hu with rfl | rfl | rfl | rfl <;> rfl) (by first | omega | (simp only [maxLen]; omega)) (by first | omega | (simp only [maxLen]; omega)) ?_
          intro ob2 cap2 ho2
          refine RL.appendA el_99 rfl rfl rfl rfl rfl rfl rfl (by first | exact ⟨(.take (Pick.none _)), rfl⟩ | exact ⟨(.leave (.take (Pick.none _))), rfl⟩ | exact ⟨(.leave (.leave (.take (Pick.none _)))), rfl⟩ | exact ⟨(.leave (.leave (.leave (.take (Pick.none _))))), rfl⟩ | exact ⟨(.leave (.leave (.leave (.leave (.take (Pick.none _)))))), rfl⟩ | exact ⟨(.leave (.leave (.leave (.leave (.leave (.take (Pick.none _))))))), rfl⟩ | exact ⟨(.leave (.leave (.leave (.leave (.leave (.leave (.take (Pick.none _)))))))), rfl⟩ | exact ⟨(.leave (.leave (.leave (.leave (.leave (.leave (.leave (.take (Pick.none _))))))))), rfl⟩ | exact ⟨(.leave (.leave (.leave (.leave (.leave (.leave (.leave (.leave (.take (Pick.none _)))))))))), rfl⟩ | exact ⟨(.leave (.leave (.leave (.leave (.leave (.leave (.leave (.leave (.leave (.take (Pick.none _))))))))))), rfl⟩) (ln_src2 hk hcp mO) (ones_lns _) (by first | omega | (simp only [maxLen]; omega)) (by first | omega | (simp only [maxLen]; omega)) ?_
          intro ob3 cap3 ho3
          refine RL.p rfl (RL.nil (NQ.block (NQ.seq (CW.ok [1, 3, 4] rfl (CW.rg (RL.p rfl (RL.bx rfl (wrapV_i64 (by omega) (by omega)) ?_)))))))
          refine RL.p rfl (RL.nil ?_)
          refine NQ.round (g := (i, ob, cp, J1)) (i + 1, ob3, cap3, J3) ⟨hlt, fun y hy => hJ23 _ (hJ12 _ (hj _ hy))⟩ (by show p.L.length - (i + 1) < p.L.length - i; omega) (.cons rfl (.cons (by dsimp only; rw [hty', hrl]; rfl) (.cons rfl .nil))) (fun w h => (by dsimp only; rw [hty', hrl, hrf]; exact h.rea (fun _ h => h) (by repeat (first | exact Rea.nil | (apply Rea.cons; (solve | (repeat (first | exact Del.here | apply Del.there))))))))
      ·
        refine RL.buildSlice (lnc (e3 x, 1)) Try.runUnderlying99 Try.sizeOf106 Try.zeroValue106 rfl rfl (by decide) (by decide) rfl rfl rfl rfl rfl rfl ?_
        intro b4
        refine RL.buildOwn [] Try.runUnderlying99 Try.sizeOf106 Try.zeroValue106 rfl rfl (by decide) (by decide) rfl (by decide) rfl rfl rfl rfl rfl rfl ?_
        intro b3
        refine RL.appendA el_99 rfl rfl rfl rfl rfl rfl rfl (by first | exact ⟨(.take (Pick.none _)), rfl⟩ | exact ⟨(.leave (.take (Pick.none _))), rfl⟩ | exact ⟨(.leave (.leave (.take (Pick.none _)))), rfl⟩ | exact ⟨(.leave (.leave (.leave (.take (Pick.none _))))), rfl⟩ | exact ⟨(.leave (.leave (.leave (.leave (.take (Pick.none _)))))), rfl⟩ | exact ⟨(.leave (.leave (.leave (.leave (.leave (.take (Pick.none _))))))), rfl⟩ | exact ⟨(.leave (.leave (.leave (.leave (.leave (.leave (.take (Pick.none _)))))))), rfl⟩ | exact ⟨(.leave (.leave (.leave (.leave (.leave (.leave (.leave (.take (Pick.none _))))))))), rfl⟩ | exact ⟨(.leave (.leave (.leave (.leave (.leave (.leave (.leave (.leave (.take (Pick.none _)))))))))), rfl⟩ | exact ⟨(.leave (.leave (.leave (.leave (.leave (.leave (.leave (.leave (.leave (.take (Pick.none _))))))))))), rfl⟩) (ln_src1 hk hcp mO) (ones_lns _) (by first | omega | (simp only [maxLen]; omega)) (by first | omega | (simp only [maxLen]; omega)) ?_
        intro ob1 cap1 ho1
        refine RL.appendA el_99 rfl rfl rfl rfl rfl rfl rfl (by first | exact ⟨(.take (Pick.none _)), rfl⟩ | exact ⟨(.leave (.take (Pick.none _))), rfl⟩ | exact ⟨(.leave (.leave (.take (Pick.none _)))), rfl⟩ | exact ⟨(.leave (.leave (.leave (.take (Pick.none _))))), rfl⟩ | exact ⟨(.leave (.leave (.leave (.leave (.take (Pick.none _)))))), rfl⟩ | exact ⟨(.leave (.leave (.leave (.leave (.leave (.take (Pick.none _))))))), rfl⟩ | exact ⟨(.leave (.leave (.leave (.leave (.leave (.leave (.take (Pick.none _)))))))), rfl⟩ | exact ⟨(.leave (.leave (.leave (.leave (.leave (.leave (.leave (.take (Pick.none _))))))))), rfl⟩ | exact ⟨(.leave (.leave (.leave (.leave (.leave (.leave (.leave (.leave (.take (Pick.none _)))))))))), rfl⟩ | exact ⟨(.leave (.leave (.leave (.leave (.leave (.leave (.leave (.leave (.leave (.take (Pick.none _))))))))))), rfl⟩) (Src.cel (cs := lnc (e3 x, 1)) (by repeat (first | exact List.Mem.head _ | apply List.Mem.tail)) rfl) (fun u hu => by simp [lnc] at hu; rcases hu with rfl | rfl | rfl | rfl <;> rfl) (by first | omega | (simp only [maxLen]; omega)) (by first | omega | (simp only [maxLen]; omega)) ?_
        intro ob2 cap2 ho2
        refine RL.appendA el_99 rfl rfl rfl rfl rfl rfl rfl (by first | exact ⟨(.take (Pick.none _)), rfl⟩ | exact ⟨(.leave (.take (Pick.none _))), rfl⟩ | exact ⟨(.leave (.leave (.take (Pick.none _)))), rfl⟩ | exact ⟨(.leave (.leave (.leave (.take (Pick.none _))))), rfl⟩ | exact ⟨(.leave (.leave (.leave (.leave (.take (Pick.none _)))))), rfl⟩ | exact ⟨(.leave (.leave (.leave (.leave (.leave (.take (Pick.none _))))))), rfl⟩ | exact ⟨(.leave (.leave (.leave (.leave (.leave (.leave (.take (Pick.none _)))))))), rfl⟩ | exact ⟨(.leave (.leave (.leave (.leave (.leave (.leave (.leave (.take (Pick.none _))))))))), rfl⟩ | exact ⟨(.leave (.leave (.leave (.leave (.leave (.leave (.leave (.leave (.take (Pick.none _)))))))))), rfl⟩ | exact ⟨(.leave (.leave (.leave (.leave (.leave (.leave (.leave (.leave (.leave (.take (Pick.none _))))))))))), rfl⟩) (ln_src2 hk hcp mO) (ones_lns _) (by first | omega | (simp only [maxLen]; omega)) (by first | omega | (simp only [maxLen]; omega)) ?_
        intro ob3 cap3 ho3
        refine RL.p rfl (RL.nil (NQ.block (NQ.seq (CW.ok [1, 3, 4] rfl (CW.rg (RL.p rfl (RL.bx rfl (wrapV_i64 (by omega) (by omega)) ?_)))))))
        refine RL.p rfl (RL.nil ?_)
        refine NQ.round (g := (i, ob, cp, J1)) (i + 1, ob3, cap3, J3) ⟨hlt, fun y hy => hJ23 _ (hJ12 _ (hj _ hy))⟩ (by show p.L.length - (i + 1) < p.L.length - i; omega) (.cons rfl (.cons (by dsimp only; rw [hty', hrl]; rfl) (.cons rfl .nil))) (fun w h => (by dsimp only; rw [hty', hrl, hrf]; exact h.rea (fun _ h => h) (by repeat (first | exact Rea.nil | (apply Rea.cons; (solve | (repeat (first | exact Del.here | apply Del.there))))))))
  ·
    have hin : i = p.L.length := by simp at hlt; omega
    subst hin
    rw [List.take_length] at hm
    refine CW.exit (XQ.seq (XQ.seq (XQ.hit (NQ.seq (CW.ok [3] rfl (CW.seq (CW.rg (RL.p rfl (RL.p rfl (RL.nil (NQ.seq (CW.ret ?_))))))))))))
    exact RQ.post (res1 rfl rfl) (.keep .nil) ⟨ob, cp, by rw [hm], rfl, by rw [hm]⟩
end Go.Proofs.Ytbdnebedmdoehaa

namespace Go.Proofs.Ytbdnebedmdoehaa
open Go.PK
theorem ents_cut {l : List Ent} {i : Nat} (hi : i ≤ l.length) : (entsV l).take (i * 4) = entsV (l.take i) := by
  have hl : (entsV (l.take i)).length = i * 4 := by rw [ents_len, List.length_take, Nat.min_eq_left hi]
  have he : entsV l = entsV (l.take i) ++ entsV (l.drop i) := by rw [← entsV_append, List.take_append_drop]
  rw [he]; exact List.take_left' hl
theorem rep_set_sl {p : Rep} {sl sl' : Value} (h1 : p.fr.length = 32) (h2 : p.to.length = 32) : spl (p.cells sl) (0 + 65) [sl'] = p.cells sl' := by
  have e : ∀ s, p.cells s = (bytes p.fr ++ bytes p.to ++ [.int .i64 p.a]) ++ ([s] ++ []) := fun s => by simp [Rep.cells]
  rw [e, e]; exact seg_spl (by simp [h1, h2]) rfl
theorem rep_set_a {p : Rep} {sl : Value} (h1 : p.fr.length = 32) (h2 : p.to.length = 32) (v : Int) : spl (p.cells sl) (0 + 64) [.int .i64 v] = Rep.cells { p with a := v } sl := by
  have e : ∀ a : Int, Rep.cells { p with a := a } sl = (bytes p.fr ++ bytes p.to) ++ ([.int .i64 a] ++ [sl]) := fun a => by simp [Rep.cells]
  rw [show p.cells sl = Rep.cells { p with a := p.a } sl from rfl, e, e]; exact seg_spl (by simp [h1, h2]) rfl
theorem rep_set_to {p : Rep} {sl : Value} (h1 : p.fr.length = 32) (h2 : p.to.length = 32) {v : List B8} (hv : v.length = 32) : spl (p.cells sl) (0 + 32) (bytes v) = Rep.cells { p with to := v } sl := by
  have e : ∀ t : List B8, Rep.cells { p with to := t } sl = bytes p.fr ++ (bytes t ++ [.int .i64 p.a, sl]) := fun t => rfl
  rw [show p.cells sl = Rep.cells { p with to := p.to } sl from rfl, e, e]; exact seg_spl (by simp [h1]) (by simp [h2, hv])
theorem rep_set_fr {p : Rep} {sl : Value} (h1 : p.fr.length = 32) {v : List B8} (hv : v.length = 32) : spl (p.cells sl) (0 + 0) (bytes v) = Rep.cells { p with fr := v } sl := by
  have e : ∀ t : List B8, Rep.cells { p with fr := t } sl = [] ++ (bytes t ++ (bytes p.to ++ [.int .i64 p.a, sl])) := fun t => rfl
  rw [show p.cells sl = Rep.cells { p with fr := p.fr } sl from rfl, e, e]; exact seg_spl rfl (by simp [h1, hv])
def Rep.few (p : Rep) : Rep := { p with L := p.L.take 20 }
def RepO (U : TypeId) (p : Rep) : Value → List It → List It → Prop := fun v I' H' => ∃ ob cap, v = .agg (p.cells (slO ob p.L.length cap)).toArray ∧ p.L.length ≤ cap ∧ I' = [] ∧ H' = [own ob cap U 4 p.L.length (entsV p.L)]
theorem tfew_any (p : Rep) (pa : Option Addr) (c n : Nat) (h1 : p.fr.length = 32) (h2 : p.to.length = 32) (hn : p.L.length = n) (hc : n ≤ c) (hb : n ≤ maxLen) : Spc Try.prog 27 #[.agg (p.cells (.slice pa n c)).toArray] [sls pa 4 n (entsV p.L)] [] (RepO 83 p.few) := by
  subst hn
  have hml : (p.L.take 20).length = min p.L.length 20 := by rw [List.length_take]; omega
  have hl66 := fun sl => rep_len (p := p) (sl := sl) h1 h2

  have hmin : min ((p.L.length : Nat) : Int) 20 = ((min p.L.length 20 : Nat) : Int) := by omega
  have hsrc : ∀ H, Src [sls pa 4 p.L.length (entsV p.L)] H (if c = 0 then pa else pa.map (·.add (0 * 4))) (min p.L.length 20 - 0) 4 (entsV (p.L.take 20)) := fun H => by
    have := Src.sub (lo := 0) (hi := min p.L.length 20) (cap := c) (Src.sls (I := [sls pa 4 p.L.length (entsV p.L)]) (H := H) (p := pa) (sz := 4) (nn := p.L.length) (xs := entsV p.L) (List.Mem.head _)) (by omega) (by omega) (by omega)
    rw [Nat.zero_mul, List.drop_zero, Nat.sub_zero, ents_cut (by omega), show p.L.take (min p.L.length 20) = p.L.take 20 by rw [Nat.min_comm, ← List.take_take, List.take_length]] at this
    simpa using this
  refine Spc.enter Try.func27 rfl rfl rfl (fun w0 hw0 => ?_)
  refine CW.seq (CW.region (ef := [0, 1]) (bk := []) (RL.box rfl rfl rfl rfl rfl rfl ?_))
  intro b1
  refine RL.alloc Try.zeroValue81 rfl rfl rfl rfl rfl ?_
  intro b2
  refine RL.nil (NQ.seq (CW.seq (CW.region (ef := [0, 8, 10]) (bk := [8, 10]) (RL.buildOwn [] Try.runUnderlying79 Try.sizeOf83 Try.zeroValue83 rfl rfl (by decide) (by decide) rfl (by decide) rfl rfl rfl rfl rfl rfl ?_))))
  intro oq
  refine RL.fieldAddr fa_81_3 rfl rfl rfl rfl (RL.load Try.isAgg79 rfl rfl rfl rfl (Rd.get (by repeat (first | exact List.Mem.head _ | apply List.Mem.tail)) (rep_sl h1 h2)) ?_)
  refine RL.fieldAddr fa_81_3 rfl rfl rfl rfl (RL.load Try.isAgg79 rfl rfl rfl rfl (Rd.get (by repeat (first | exact List.Mem.head _ | apply List.Mem.tail)) (rep_sl h1 h2)) ?_)
  refine RL.lenS Try.runUnderlying79 rfl rfl rfl rfl (RL.min rfl rfl rfl rfl rfl ?_)
  rw [hmin]
  refine RL.slice (lo := 0) (hi := min p.L.length 20) Try.runUnderlying79 Try.sizeOf83 rfl rfl rfl rfl rfl rfl (by omega) (by omega) ?_
  refine RL.appendA el_79 rfl rfl rfl rfl rfl rfl rfl (by first | exact ⟨(.take (Pick.none _)), rfl⟩ | exact ⟨(.leave (.take (Pick.none _))), rfl⟩ | exact ⟨(.leave (.leave (.take (Pick.none _)))), rfl⟩ | exact ⟨(.leave (.leave (.leave (.take (Pick.none _))))), rfl⟩ | exact ⟨(.leave (.leave (.leave (.leave (.take (Pick.none _)))))), rfl⟩ | exact ⟨(.leave (.leave (.leave (.leave (.leave (.take (Pick.none _))))))), rfl⟩ | exact ⟨(.leave (.leave (.leave (.leave (.leave (.leave (.take (Pick.none _)))))))), rfl⟩ | exact ⟨(.leave (.leave (.leave (.leave (.leave (.leave (.leave (.take (Pick.none _))))))))), rfl⟩ | exact ⟨(.leave (.leave (.leave (.leave (.leave (.leave (.leave (.leave (.take (Pick.none _)))))))))), rfl⟩ | exact ⟨(.leave (.leave (.leave (.leave (.leave (.leave (.leave (.leave (.leave (.take (Pick.none _))))))))))), rfl⟩) (hsrc _) (ents_ones _) (by first | omega | (simp only [maxLen]; omega)) (by first | omega | (simp only [maxLen]; omega)) ?_
  intro ob1 cap1 ho1
  refine RL.fieldAddr fa_81_3 rfl rfl rfl rfl (RL.storeX (vs := [_]) (rep_set_sl h1 h2) Try.sizeOf79 rfl rfl rfl rfl rfl rfl rfl rfl (by repeat (first | exact Upd.here | apply Upd.there)) (by rw [hl66]; show 0 + 65 + 1 ≤ 66; decide) ?_)
  refine RL.nil (NQ.seq (CW.ok [1, 2] rfl (CW.seq ?_)))
  rw [show 0 + (min p.L.length 20 - 0) = p.few.L.length by show _ = (p.L.take 20).length; omega, List.nil_append]
  refine CW.fact (p := p.few.L.length ≤ cap1) (fun w hC => own_cap (hC.s.h (own ob1 cap1 83 4 p.few.L.length (entsV (p.L.take 20))) (by repeat (first | exact List.Mem.head _ | apply List.Mem.tail)))) (fun hcp => ?_)
  refine CW.region (ef := [1]) (bk := [1]) (RL.loadW Try.isAgg81 Try.sizeOf81 rfl rfl rfl rfl (by repeat (first | exact List.Mem.head _ | apply List.Mem.tail)) (hl66 _) ?_)
  refine RL.storeW Try.sizeOf81 rfl rfl rfl rfl rfl rfl rfl (ones_rep _ rfl) (by repeat (first | exact Upd.here | apply Upd.there)) (hl66 _) rfl ?_
  refine RL.nil (NQ.seq (CW.ret (RQ.rea (fun _ h => h) (H' := [own ob1 cap1 83 4 p.few.L.length (entsV (p.L.take 20)), cel b2 (p.cells (slO ob1 p.few.L.length cap1)) 81]) (by repeat (first | exact Rea.nil | (apply Rea.cons; (solve | (repeat (first | exact Del.here | apply Del.there)))))) ?_)))
  exact RQ.post (resW rfl rfl Try.isAgg81 Try.sizeOf81 (by repeat (first | exact List.Mem.head _ | apply List.Mem.tail)) (hl66 _)) (.keep (Split.none _)) ⟨ob1, cap1, rfl, hcp, rfl, rfl⟩
theorem tplain_any (p : Rep) (pa : Option Addr) (c n : Nat) (h1 : p.fr.length = 32) (h2 : p.to.length = 32) (hn : p.L.length = n) (hb : n ≤ 1000000) : Spc Try.prog 32 #[.agg (p.cells (.slice pa n c)).toArray] [sls pa 4 n (entsV p.L)] [] (RepO 87 p) := by
  subst hn
  have hl66 := fun sl => rep_len (p := p) (sl := sl) h1 h2
  have l1 : (bytes p.fr).length = 32 := by rw [List.length_map, h1]
  have l2 : (bytes p.to).length = 32 := by rw [List.length_map, h2]
  refine Spc.enter Try.func32 rfl rfl rfl (fun w0 hw0 => ?_)
  refine CW.seq (CW.region (ef := [0, 1]) (bk := []) (RL.box rfl rfl rfl rfl rfl rfl ?_))
  intro b1
  refine RL.alloc Try.zeroValue93 rfl rfl rfl rfl rfl ?_
  intro b2
  refine RL.nil (NQ.seq (CW.seq (CW.freezeP (A := [_]) (B := [_]) (.leave (.take .nil)) rfl ?_)))
  refine CW.genI (fun J hJ => ?_)
  have m1 : cel b1 (p.cells (.slice pa p.L.length c)) 81 ∈ J := hJ _ (by simp)
  have m2 : sls pa 4 p.L.length (entsV p.L) ∈ J := hJ _ (by simp)
  clear hJ
  have f1 : RdI J ⟨b1, 0 + 64, none⟩ (.int .i64 p.a) := ⟨fun _ => Rd.getI m1 (rep_a h1 h2)⟩
  have f2 : RdI J ⟨b1, 0 + 65, none⟩ (.slice pa p.L.length c) := ⟨fun _ => Rd.getI m1 (rep_sl h1 h2)⟩
  have f3 : RdsN J ⟨b1, 0 + 0, none⟩ 32 (bytes p.fr) := RdsN.told m1 (rep_fr h1) l1
  have f4 : RdsN J ⟨b1, 0 + 32, none⟩ 32 (bytes p.to) := RdsN.told m1 (rep_to h1) l2
  refine CW.region (ef := [7, 8]) (bk := [8]) (RL.fieldAddr fa_81_0 rfl rfl rfl rfl (RL.loadSq Try.isAgg78 Try.sizeOf78 rfl rfl rfl rfl ?_))
  refine RL.fieldAddr fa_81_1 rfl rfl rfl rfl (RL.loadSq Try.isAgg78 Try.sizeOf78 rfl rfl rfl rfl ?_)
  refine RL.fieldAddr fa_81_2 rfl rfl rfl rfl (RL.loadq Try.isAgg3 rfl rfl rfl rfl ?_)
  refine RL.buildS (p.cells (.slice none 0 0)) Try.zeroValue93 pl_93 rfl rfl rfl rfl (fill_rep h1 h2 rfl) (RL.alloc Try.zeroValue93 rfl rfl rfl rfl rfl ?_)
  intro b3
  refine RL.storeW Try.sizeOf93 rfl rfl rfl rfl rfl rfl rfl (ones_rep _ rfl) (by repeat (first | exact Upd.here | apply Upd.there)) (hl66 _) rfl ?_
  refine RL.nil (NQ.seq (CW.ok [1, 2, 3] rfl (CW.seq (CW.seq (CW.rg (RL.p rfl (RL.nil (NQ.seq (CW.block (CW.ownNone (e := 87) 4 ?_))))))))))
  refine CW.loop (γ := Nat × Option Nat × Nat) (fun g => g.1 ≤ p.L.length) (fun g => [(1, .pointer (some ⟨b1, 0, none⟩)), (2, .pointer (some ⟨b2, 0, none⟩)), (3, .pointer (some ⟨b3, 0, none⟩)), (4, .int .i64 (g.1 : Int))]) (fun _ => J)
    (fun g => [cel b3 (p.cells (slO g.2.1 g.1 g.2.2)) 93, own g.2.1 g.2.2 87 4 g.1 (entsV (p.L.take g.1)), cel b2 (rep0.cells (.slice none 0 0)) 93]) (fun g => p.L.length - g.1) (0, none, 0) (Nat.zero_le _) (.cons rfl (.cons rfl (.cons rfl (.cons rfl .nil)))) (fun w h => h.rea (fun _ h => h) (by repeat (first | exact Rea.nil | (apply Rea.cons; (solve | (repeat (first | exact Del.here | apply Del.there))))))) ?_
  rintro ⟨i, ob, cp⟩ hi
  dsimp only at hi ⊢
  refine CW.fact (p := pa = none → p.L.length = 0) (fun w hC e => sls_nil (hC.s.i _ m2) e) (fun hpa => ?_)
  refine CW.seq (CW.seq (CW.rg (RL.p rfl (RL.fieldAddr fa_81_3 rfl rfl rfl rfl (RL.loadq Try.isAgg79 rfl rfl rfl rfl ?_)))))
  refine RL.lenS Try.runUnderlying79 rfl rfl rfl rfl (RL.p rfl (RL.nil (NQ.seq ?_)))
  refine CW.cond rfl (fun hlt => ?_) (fun hlt => ?_)
  ·
    have hlt : i < p.L.length := by simp at hlt; omega
    cases pa with
    | none => exact absurd (hpa rfl) (by omega)
    | some ad =>
    have hx := List.getElem?_eq_getElem hlt
    have htk : p.L.take (i + 1) = p.L.take i ++ [p.L[i]] := by rw [List.take_add_one, hx]; rfl
    generalize p.L[i] = x at hx htk
    have hE : entsV (p.L.take (i + 1)) = entsV (p.L.take i) ++ x.cells := by rw [htk, entsV_append]; simp [entsV]
    have r0 : RdsN J (ad.add (i * 4)) 4 x.cells := ⟨fun _ => (Rds.sls m2).part (fun q u hu => by
      have hlt : q < 4 := (List.getElem?_eq_some_iff.1 hu).1
      rw [get_flat (ent_len _) hx hlt]; exact hu), rfl⟩
    have a1 : RdI J ((ad.add (i * 4)).add 0) (.int .i64 x.t) := ⟨fun H => (r0.h H).rd rfl⟩
    have a2 : RdI J ((ad.add (i * 4)).add 1) (.int .i64 x.k) := ⟨fun H => (r0.h H).rd rfl⟩
    have a3 : RdI J ((ad.add (i * 4)).add 2) (.int .i64 x.s) := ⟨fun H => (r0.h H).rd rfl⟩
    have a4 : RdI J ((ad.add (i * 4)).add 3) (.int .i64 x.e) := ⟨fun H => (r0.h H).rd rfl⟩
    refine CW.skip (NQ.seq (CW.seq (CW.block (CW.regionD (Sq.of [0, 1, 2, 3, 4, 5, 6, 7, 8, 9, 10, 11, 12, 13, 14, 15, 16, 17, 18, 19, 20, 21, 22, 23, 24, 25, 26, 27, 28, 29, 30]) [27, 28, 30] [28, 30] [0, 2, 3, 4, 5, 6, 7, 8, 9, 10, 11, 12, 13, 14, 15, 16, 17, 18, 19, 20, 21, 22, 23, 24, 25, 26, 29] mixed (by kernel_rfl) ?_))))
    first | refine RL.fieldAddr fa_93_3 rfl rfl rfl rfl ?_ | refine RL.fieldAddrG fa_93_3 rfl rfl rfl rfl ?_
    refine RL.load Try.isAgg91 rfl rfl rfl rfl (Rd.get (by repeat (first | exact List.Mem.head _ | apply List.Mem.tail)) (rep_sl h1 h2)) ?_
    first | refine RL.fieldAddr fa_81_3 rfl rfl rfl rfl ?_ | refine RL.fieldAddrG fa_81_3 rfl rfl rfl rfl ?_
    refine RL.loadTq Try.isAgg79 rfl rfl rfl rfl ?_
    refine RL.p rfl ?_
    first | refine RL.idxAt (j := i) Try.runUnderlying79 Try.sizeOf83 rfl rfl rfl rfl rfl rfl (hlt) ?_ | refine RL.idx (j := i) Try.runUnderlying79 Try.sizeOf83 rfl rfl rfl rfl rfl rfl (hlt) ?_
    first | refine RL.fieldAddr fa_83_0 rfl rfl rfl rfl ?_ | refine RL.fieldAddrG fa_83_0 rfl rfl rfl rfl ?_
    refine RL.loadTq Try.isAgg3 rfl rfl rfl rfl ?_
    first | refine RL.fieldAddr fa_81_3 rfl rfl rfl rfl ?_ | refine RL.fieldAddrG fa_81_3 rfl rfl rfl rfl ?_
    refine RL.loadTq Try.isAgg79 rfl rfl rfl rfl ?_
    refine RL.p rfl ?_
    first | refine RL.idxAt (j := i) Try.runUnderlying79 Try.sizeOf83 rfl rfl rfl rfl rfl rfl (hlt) ?_ | refine RL.idx (j := i) Try.runUnderlying79 Try.sizeOf83 rfl rfl rfl rfl rfl rfl (hlt) ?_
    first | refine RL.fieldAddr fa_83_1 rfl rfl rfl rfl ?_ | refine RL.fieldAddrG fa_83_1 rfl rfl rfl rfl ?_
    refine RL.loadTq Try.isAgg3 rfl rfl rfl rfl ?_
    first | refine RL.fieldAddr fa_81_3 rfl rfl rfl rfl ?_ | refine RL.fieldAddrG fa_81_3 rfl rfl rfl rfl ?_
    refine RL.loadTq Try.isAgg79 rfl rfl rfl rfl ?_
    refine RL.p rfl ?_
    first | refine RL.idxAt (j := i) Try.runUnderlying79 Try.sizeOf83 rfl rfl rfl rfl rfl rfl (hlt) ?_ | refine RL.idx (j := i) Try.runUnderlying79 Try.sizeOf83 rfl rfl rfl rfl rfl rfl (hlt) ?_
    first | refine RL.fieldAddr fa_83_2 rfl rfl rfl rfl ?_ | refine RL.fieldAddrG fa_83_2 rfl rfl rfl rfl ?_
    refine RL.loadTq Try.isAgg3 rfl rfl rfl rfl ?_
    first | refine RL.fieldAddr fa_81_3 rfl rfl rfl rfl ?_ | refine RL.fieldAddrG fa_81_3 rfl rfl rfl rfl ?_
    refine RL.loadTq Try.isAgg79 rfl rfl rfl rfl ?_
    refine RL.p rfl ?_
    first | refine RL.idxAt (j := i) Try.runUnderlying79 Try.sizeOf83 rfl rfl rfl rfl rfl rfl (hlt) ?_ | refine RL.idx (j := i) Try.runUnderlying79 Try.sizeOf83 rfl rfl rfl rfl rfl rfl (hlt) ?_
    first | refine RL.fieldAddr fa_83_3 rfl rfl rfl rfl ?_ | refine RL.fieldAddrG fa_83_3 rfl rfl rfl rfl ?_
    refine RL.loadTq Try.isAgg3 rfl rfl rfl rfl ?_
    refine RL.buildS [_, _, _, _] Try.zeroValue87 pl_87 rfl rfl rfl rfl rfl (RL.buildSlice [_, _, _, _] Try.runUnderlying91 Try.sizeOf87 Try.zeroValue87 rfl rfl (by decide) (by decide) rfl rfl rfl rfl rfl rfl ?_)
    intro b4
    refine RL.appendq el_91 rfl rfl rfl rfl rfl rfl rfl ?_
    intro ob1 cap1 ho1
    first | refine RL.fieldAddr fa_93_3 rfl rfl rfl rfl ?_ | refine RL.fieldAddrG fa_93_3 rfl rfl rfl rfl ?_
    refine RL.storeX (vs := [_]) (rep_set_sl h1 h2) Try.sizeOf91 rfl rfl rfl rfl rfl rfl rfl rfl (by repeat (first | exact Upd.here | apply Upd.there)) (by rw [hl66]; show 0 + 65 + 1 ≤ 66; decide) ?_
    refine RL.nil (NQ.block (NQ.seq (CW.ok [1, 2, 3, 4] rfl (CW.rg (RL.p rfl (RL.bx rfl (wrapV_i64 (by omega) (by omega)) ?_))))))
    refine RL.p rfl (RL.nil ?_)
    refine NQ.round (g := (i, ob, cp)) (i + 1, ob1, cap1) hlt (by show p.L.length - (i + 1) < p.L.length - i; omega) (.cons rfl (.cons rfl (.cons rfl (.cons rfl .nil)))) (fun w h => ?_)
    dsimp only
    rw [hE]
    exact h.rea (fun _ h => h) (by repeat (first | exact Rea.nil | (apply Rea.cons; (solve | (repeat (first | exact Del.here | apply Del.there))))))
  ·
    have hin : i = p.L.length := by simp at hlt; omega
    subst hin
    rw [List.take_length]
    refine CW.exit (XQ.seq (XQ.seq (XQ.hit (NQ.seq (CW.ok [2, 3] rfl (CW.seq ?_))))))
    refine CW.fact (p := p.L.length ≤ cp) (fun w hC => own_cap (hC.s.h (own ob cp 87 4 p.L.length (entsV p.L)) (by repeat (first | exact List.Mem.head _ | apply List.Mem.tail)))) (fun hcp => ?_)
    refine CW.region (ef := [1]) (bk := [1]) (RL.loadW Try.isAgg93 Try.sizeOf93 rfl rfl rfl rfl (by repeat (first | exact List.Mem.head _ | apply List.Mem.tail)) (hl66 _) ?_)
    refine RL.storeW Try.sizeOf93 rfl rfl rfl rfl rfl rfl rfl (ones_rep _ rfl) (by repeat (first | exact Upd.here | apply Upd.there)) (hl66 _) rfl ?_
    refine RL.nil (NQ.seq (CW.ret (RQ.rea (fun _ h => h) (H' := [own ob cp 87 4 p.L.length (entsV p.L), cel b2 (p.cells (slO ob p.L.length cp)) 93]) (by repeat (first | exact Rea.nil | (apply Rea.cons; (solve | (repeat (first | exact Del.here | apply Del.there)))))) ?_)))
    exact RQ.post (resW rfl rfl Try.isAgg93 Try.sizeOf93 (by repeat (first | exact List.Mem.head _ | apply List.Mem.tail)) (hl66 _)) (.keep (Split.none _)) ⟨ob, cp, rfl, hcp, rfl, rfl⟩
end Go.Proofs.Ytbdnebedmdoehaa
