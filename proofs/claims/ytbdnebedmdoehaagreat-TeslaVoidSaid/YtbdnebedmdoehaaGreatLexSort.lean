import Derived.Test.YtbdnebedmdoehaaGreatCmp
import Derived.Test.YtbdnebedmdoehaaGreatPE
namespace Go.Proofs.YtbdnebedmdoehaaGreat
open Go.PK
/-- Places in order. -/
def lexLe (x y : Int × Int) : Bool := decide (x.1 < y.1 ∨ x.1 = y.1 ∧ x.2 ≤ y.2)
theorem sort_is {l r : List (Int × Int)} (h : l.Perm r) (hr : r.Pairwise fun x y => lexLe x y = true) : l.mergeSort lexLe = r := by
  have h1 := (List.mergeSort_perm l lexLe).trans h
  have h2 : (l.mergeSort lexLe).Pairwise fun x y => lexLe x y = true := List.pairwise_mergeSort (fun a b c h1 h2 => by simp [lexLe] at *; omega) (fun a b => by simp [lexLe]; omega) l
  refine h1.eq_of_pairwise (fun x y _ _ h1 h2 => ?_) h2 hr
  obtain ⟨a, b⟩ := x; obtain ⟨c, d⟩ := y
  simp [lexLe] at h1 h2
  rw [Prod.mk.injEq]; omega
theorem sort_perm {l r : List (Int × Int)} (h : l.Perm r) : l.mergeSort lexLe = r.mergeSort lexLe := by
  refine sort_is (h.trans (List.mergeSort_perm r lexLe).symm) ?_
  exact List.pairwise_mergeSort (fun a b c h1 h2 => by simp [lexLe] at *; omega) (fun a b => by simp [lexLe]; omega) r
theorem map_eraseIdx' {α β : Type} (f : α → β) : ∀ (l : List α) (j : Nat), (l.eraseIdx j).map f = (l.map f).eraseIdx j
  | [], _ => rfl
  | _ :: _, 0 => rfl
  | a :: l, j + 1 => by simp [map_eraseIdx' f l j]
theorem perm_erase' {α : Type} : ∀ {l : List α} {q : Nat} {p : α}, l[q]? = some p → l.Perm (p :: l.eraseIdx q)
  | a :: l, 0, p, h => by
    obtain rfl : a = p := by simpa using h
    simp
  | a :: l, q + 1, p, h => by
    have := perm_erase' (l := l) (q := q) (p := p) (by simpa using h)
    rw [List.eraseIdx_cons_succ]
    exact (this.cons a).trans (List.Perm.swap _ _ _)
end Go.Proofs.YtbdnebedmdoehaaGreat
