import Derived.Test.YtbdnebedmdoehaaCmp
import Derived.Test.YtbdnebedmdoehaaPE
namespace Go.Proofs.Ytbdnebedmdoehaa
open Go.PK
def plc (p : Int × Int) : List Value := [.int .i64 p.1, .int .i64 p.2]
theorem plc_snoc (l : List (Int × Int)) (p : Int × Int) : (l ++ [p]).flatMap plc = l.flatMap plc ++ [.int .i64 p.1, .int .i64 p.2] := by simp [plc]
/-- Places in order. -/
def lexLe (x y : Int × Int) : Bool := decide (x.1 < y.1 ∨ x.1 = y.1 ∧ x.2 ≤ y.2)
theorem sort_is {l r : List (Int × Int)} (h : l.Perm r) (hr : r.Pairwise fun x y => lexLe x y = true) : l.mergeSort lexLe = r := by
  have h1 := (List.mergeSort_perm l lexLe).trans h
  have h2 : (l.mergeSort lexLe).Pairwise fun x y => lexLe x y = true := List.pairwise_mergeSort (fun a b c h1 h2 => by simp [lexLe] at *; omega) (fun a b => by simp [lexLe]; omega) l
  refine h1.eq_of_pairwise (fun x y _ _ h1 h2 => ?_) h2 hr
  obtain ⟨a, b⟩ := x; obtain ⟨c, d⟩ := y
  simp [lexLe] at h1 h2
  rw [Prod.mk.injEq]; omega
theorem sort_perm {l r : List (Int × Int)} (h : l.Perm r) : l.mergeSort lexLe = r.mergeSort lexLe := by
  refine sort_is (h.trans (List.mergeSort_perm r lexLe).symm) ?_
  exact List.pairwise_mergeSort (fun a b c h1 h2 => by simp [lexLe] at *; omega) (fun a b => by simp [lexLe]; omega) r
theorem mem_erase' {α : Type} {l : List α} {j : Nat} {p x : α} (hp : l[j]? = some p) (hx : x ∈ l) : x = p ∨ x ∈ l.eraseIdx j := by
  induction l generalizing j with
  | nil => cases hx
  | cons a l ih =>
    cases j with
    | zero =>
      simp at hp; subst hp
      rcases List.mem_cons.1 hx with h | h
      · exact .inl h
      · exact .inr (by simpa using h)
    | succ j =>
      simp at hp
      rcases List.mem_cons.1 hx with h | h
      · exact .inr (by simp [h])
      · rcases ih hp h with h | h
        · exact .inl h
        · exact .inr (by simp [h])
theorem erase_nodup' {α : Type} {l : List α} {j : Nat} {p : α} (hp : l[j]? = some p) (hn : l.Nodup) : p ∉ l.eraseIdx j := by
  induction l generalizing j with
  | nil => simp at hp
  | cons a l ih =>
    rw [List.nodup_cons] at hn
    cases j with
    | zero => simp at hp; subst hp; simpa using hn.1
    | succ j =>
      simp at hp
      have hm := List.mem_of_getElem? hp
      simp only [List.eraseIdx_cons_succ, List.mem_cons, not_or]
      exact ⟨fun e => hn.1 (e ▸ hm), ih hp hn.2⟩
theorem map_eraseIdx' {α β : Type} (f : α → β) : ∀ (l : List α) (j : Nat), (l.eraseIdx j).map f = (l.map f).eraseIdx j
  | [], _ => rfl
  | _ :: _, 0 => rfl
  | a :: l, j + 1 => by simp [map_eraseIdx' f l j]
theorem mapIt_ne' {r it : Nat} {good : Value → Prop} {c left : List (Value × Value)} {w : World} {w0 : World} {S : List Nat} {I B : List It} (h : Cls w0 S I (mapIt r it good c left :: B) w) : r ≠ it := fun e => by
  have := h.s.nd
  simp [mapIt, e] at this
theorem mapIt_facts' {r it : Nat} {good : Value → Prop} {c left : List (Value × Value)} {w : World} (h : (mapIt r it good c left).A w) : (c.map (·.1)).Nodup ∧ (left.map (·.1)).Nodup ∧ (∀ p ∈ left, p ∈ c ∧ good p.1) := by
  obtain ⟨es, clock, since, seen, g1, g2, g3, g4, g5, g6, g7, g8, g9⟩ := h
  have hsub : left.Sublist c := by rw [g9, ← g3]; exact List.filter_sublist.map _
  exact ⟨g4, g4.sublist (hsub.map _), fun p hp => ⟨hsub.subset hp, g5 p (hsub.subset hp)⟩⟩
theorem perm_erase' {α : Type} : ∀ {l : List α} {q : Nat} {p : α}, l[q]? = some p → l.Perm (p :: l.eraseIdx q)
  | a :: l, 0, p, h => by
    obtain rfl : a = p := by simpa using h
    simp
  | a :: l, q + 1, p, h => by
    have := perm_erase' (l := l) (q := q) (p := p) (by simpa using h)
    rw [List.eraseIdx_cons_succ]
    exact (this.cons a).trans (List.Perm.swap _ _ _)
end Go.Proofs.Ytbdnebedmdoehaa
