/-
  PK, part T: slices.SortFunc, over one's own structs.
-/
import Derived.Test.YtggmnhogmjglmaaPkS
import Derived.Shelf.SlSortCmp.NoneTotal
namespace Go.PK
open Go.Sort Go.Proofs

theorem Keeps.grows {w w' : World} (h : Keeps [] w w') : ∃ q os, w' = Go.Sort.grow (w.drewN q) os := by
  refine ⟨w'.drawn - w.drawn, w'.heap.extract w.heap.size, ?_⟩
  obtain ⟨h1, h2, h3, h4, h5, h6⟩ := h
  cases w with
  | mk hp tp dr os ou =>
  cases w' with
  | mk hp' tp' dr' os' ou' =>
  simp only at h1 h2 h3 h4 h5 h6
  subst h1 h2 h3
  simp only [Go.Sort.grow, World.drewN, World.mk.injEq, true_and, and_true]
  refine ⟨?_, by omega⟩
  apply Array.ext_getElem?
  intro i
  by_cases hi : i < hp.size
  · rw [Array.getElem?_append_left hi]; exact h5 i hi (by simp)
  · rw [Array.getElem?_append_right (by omega), Array.getElem?_extract]
    by_cases h7 : i < hp'.size
    · rw [if_pos (by simp; omega)]; congr 1; omega
    · rw [if_neg (by simp; omega), Array.getElem?_eq_none (by omega)]
theorem flatK_flat {α : Type} [Inhabited α] (enc : α → List Value) {k : Nat} (hk : ∀ x, (enc x).length = k) (hpos : 0 < k) (d : List α) : flatK enc k d.toArray = (d.flatMap enc).toArray := by
  apply Array.ext'
  apply List.ext_getElem?
  intro t
  have hl : (d.flatMap enc).length = d.length * k := length_flat (fun a _ => hk a)
  by_cases ht : t < d.length * k
  · have hq : t / k < d.length := Nat.div_lt_of_lt_mul (by rw [Nat.mul_comm]; exact ht)
    have hr : t % k < k := Nat.mod_lt _ hpos
    have hx := List.getElem?_eq_getElem hq
    have h1 := get_flat (f := enc) (n := k) (fun a _ => hk a) hx hr
    rw [show t / k * k + t % k = t by rw [Nat.mul_comm]; exact Nat.div_add_mod t k] at h1
    have h2 := get_flatK enc k d.toArray t (by simpa using ht)
    have h3 : (flatK enc k d.toArray).toList[t]? = some ((flatK enc k d.toArray)[t]!) := by
      have : t < (flatK enc k d.toArray).size := by simpa using ht
      rw [getElem!_pos _ t this, List.getElem?_eq_getElem (by simpa using ht)]; rfl
    rw [h3, h2]
    show _ = (d.flatMap enc)[t]?
    rw [h1]
    have h4 : d.toArray[t / k]! = d[t / k] := by rw [getElem!_pos _ _ (by simpa using hq)]; simp
    rw [h4, List.getElem?_eq_getElem (by rw [hk]; exact hr), getElem!_pos _ _ (by rw [hk]; exact hr)]
  · rw [List.getElem?_eq_none (by simp; omega)]
    show none = (d.flatMap enc)[t]?
    rw [List.getElem?_eq_none (by rw [hl]; omega)]
theorem own_holdsV {b cap n sz : Nat} {e : TypeId} {xs : List Value} {w : World} (hA : (own (some b) cap e sz n xs).A w) : Holds id w b 0 xs.toArray ∧ b < w.heap.size := by
  obtain ⟨h1, h2, h3, rest, ⟨f, h4, h6⟩, h5⟩ := hA
  have hb : b < w.heap.size := (Array.getElem?_eq_some_iff.1 h4).1
  refine ⟨fun j hj => ?_, hb⟩
  have hj : j < xs.length := by simpa using hj
  have hle : xs.length ≤ cap * sz := by rw [← h5, List.length_append]; omega
  constructor
  · simp [World.cell?, h4, List.getElem?_append_left, hj]
  · simp only [World.frozen?, h4, Nat.zero_add]
    rcases h6 with rfl | h6
    · simp
    · simp; omega
theorem sort_func {P : Program} {f g : FuncId} {α : Type} [Inhabited α] (enc : α → List Value) {k : Nat} (hpos : 0 < k) (hk : ∀ x, (enc x).length = k) (cf : α → α → Int)
    (hC : ∀ (blk off cap : Nat) (d : Array α) (w : World), CmpLays P g #[] enc k cf blk off d.size w → HoldsK enc k w blk off d → blk < w.heap.size → d.size < 4611686018427387904 →
      Calls P f #[.slice (some ⟨blk, off, none⟩) d.size cap, .func (.func g) #[] #[]] w fun e w' => e = .returned (.tuple #[]) ∧ ∃ n os, w' = sortWorldK enc k w blk off n (d.toList.mergeSort fun x y => !(ltOf cf) y x).toArray os)
    (hcmp : ∀ x y, Spc P g #[.agg (enc x).toArray, .agg (enc y).toArray] [] [] (Is (.int .i64 (cf x y))))
    (b cap n : Nat) (e : TypeId) (d : List α) (hn : d.length = n) (hb : n < 4611686018427387904) :
    Spc P f #[slO (some b) n cap, .func (.func g) #[] #[]] [] [own (some b) cap e k n (d.flatMap enc)] (fun v I' H' => v = .tuple #[] ∧ I' = [] ∧ H' = [own (some b) cap e k n ((d.mergeSort fun x y => !(ltOf cf) y x).flatMap enc)]) := by
  intro w hw
  have hA := hw.h _ (List.Mem.head _)
  obtain ⟨hH, hb'⟩ := own_holdsV hA
  subst hn
  have hlay : CmpLays P g #[] enc k cf b 0 d.toArray.size w := fun m os dk _ x y => by
    rw [Array.append_empty]
    refine (hcmp x y _ ⟨by simp, by simp, by simp, by simp⟩).mono ?_
    rintro e' w' ⟨v, I', H', rfl, ⟨rfl, rfl, rfl⟩, hkp, -⟩
    exact ⟨rfl, hkp.grows⟩
  have := hC b 0 cap d.toArray w hlay (by rw [HoldsK, flatK_flat enc hk hpos]; exact hH) hb' (by simpa using hb)
  refine this.mono ?_
  rintro e' w' ⟨rfl, m, os, rfl⟩
  have hl : ((d.mergeSort fun x y => !(ltOf cf) y x).flatMap enc).length = (d.flatMap enc).length := by
    rw [length_flat (n := k) (fun a _ => hk a), length_flat (n := k) (fun a _ => hk a), List.length_mergeSort]
  obtain ⟨k1, k2⟩ := sorted_own (id : Value → Value) (m := m) (os := os) (d := (d.mergeSort fun x y => !(ltOf cf) y x).flatMap enc) hA hl
  rw [List.map_id] at k1
  rw [show sortWorldK enc k w b 0 m (d.toArray.toList.mergeSort fun x y => !(ltOf cf) y x).toArray os = Go.Sort.grow (putRow id (Sort.ahead w m) b 0 ((d.mergeSort fun x y => !(ltOf cf) y x).flatMap enc).toArray) os by
    rw [sortWorldK, putRowK, flatK_flat enc hk hpos]]
  refine ⟨_, [], _, rfl, ⟨rfl, rfl, rfl⟩, k2, ⟨by simp, fun x hx => ?_, by simp [own], by simp⟩, fun c hc => .inl hc, by simp⟩
  rw [List.mem_singleton.1 hx]; exact k1
theorem sort_funcO {P : Program} {f g : FuncId} {α : Type} [Inhabited α] (enc : α → List Value) {k : Nat} (hpos : 0 < k) (hk : ∀ x, (enc x).length = k) (cf : α → α → Int)
    (hC : ∀ (blk off cap : Nat) (d : Array α) (w : World), CmpLays P g #[] enc k cf blk off d.size w → HoldsK enc k w blk off d → blk < w.heap.size → d.size < 4611686018427387904 →
      Calls P f #[.slice (some ⟨blk, off, none⟩) d.size cap, .func (.func g) #[] #[]] w fun e w' => e = .returned (.tuple #[]) ∧ ∃ n os, w' = sortWorldK enc k w blk off n (d.toList.mergeSort fun x y => !(ltOf cf) y x).toArray os)
    (hN : ∀ (cap : Nat) (w : World), Calls P f #[.slice none 0 cap, .func (.func g) #[] #[]] w fun e w' => e = .returned (.tuple #[]) ∧ w' = w)
    (hcmp : ∀ x y, Spc P g #[.agg (enc x).toArray, .agg (enc y).toArray] [] [] (Is (.int .i64 (cf x y))))
    (ob : Option Nat) (cap n : Nat) (e : TypeId) (d : List α) (hn : d.length = n) (hb : n < 4611686018427387904) :
    Spc P f #[slO ob n cap, .func (.func g) #[] #[]] [] [own ob cap e k n (d.flatMap enc)] (fun v I' H' => v = .tuple #[] ∧ I' = [] ∧ H' = [own ob cap e k n ((d.mergeSort fun x y => !(ltOf cf) y x).flatMap enc)]) := by
  cases ob with
  | some b => exact sort_func enc hpos hk cf hC hcmp b cap n e d hn hb
  | none =>
    intro w hw
    have hA := hw.h _ (List.Mem.head _)
    have h0 : n = 0 := hA.2.1
    subst h0
    obtain rfl : d = [] := List.length_eq_zero_iff.1 hn
    refine (hN cap w).mono ?_
    rintro e' w' ⟨rfl, rfl⟩
    exact ⟨_, [], _, rfl, ⟨rfl, rfl, rfl⟩, Keeps.refl _ _, ⟨by simp, fun x hx => by rw [List.mem_singleton.1 hx]; simpa using hA, by simp [own], by simp⟩, fun c hc => .inl hc, by simp⟩
end Go.PK
