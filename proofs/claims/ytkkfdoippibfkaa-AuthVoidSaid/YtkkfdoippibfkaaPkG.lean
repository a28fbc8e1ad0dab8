/-
  PK, part G: append, copy, make; results in memory; strings.
-/
import Derived.Test.YtkkfdoippibfkaaPkF
namespace Go.PK

section
variable {P : Program} {L : List Oper} {ef bk : List Nat} {tq : Tq} {Q : Exit → Act → World → Prop} {N : Nat} {E : Env} {w0 : World} {S : List Nat} {I H : List It} {i : Nat} {l : Sq}
variable {d : Nat} {x y z : Operand} {ty t yt : TypeId} {pos : String} {af : Array Edge} {g : Option (Nat × Bool)} {v : Value} {k k' : IntKind} {m n : Int}

/-- What a slice's element type is. -/
structure ElemT (P : Program) (t e : TypeId) (sz bytes : Nat) : Prop where
  ut : P.underlying t = some (.slice e)
  inf : ∃ i z, P.info? e = some i ∧ i.zero = some z ∧ i.size = sz ∧ i.bytes = bytes ∧ z.cells.size = sz
  pos : 0 < sz

theorem exec_append {ρ : Operand → Value} {dst : Option Tmp} {vx vy : Value} {ats : Array TypeId} (hx : ρ x = vx) (hy : ρ y = vy) {r : Value} {w w' : World} (h : (Builtin.append_ ats ty #[vx, vy]).run P w = .ok r w') :
    (execOp ρ ⟨dst, .call ⟨.builtin .append, #[x, y], ats⟩, ty, pos, af, g⟩).run P w = .ok (.value r) w' := by
  simp only [BigFrame.execOp_builtin, BigFrame.builtin_append, List.map_toArray, List.map_cons, List.map_nil, hx, hy]
  simp [h]

/-- Cells written below what is frozen. -/
theorem run_storeCells_atF {P : Program} (g o : Nat) (t : TypeId) (f : Nat × Nat) : ∀ (vs : List Value) (i : Nat) (cur : Array Value) (w : World), (f = (0, 0) ∨ cur.size ≤ f.1) → w.heap[g]? = some (.cells cur t f) → o + i + vs.length ≤ cur.size → (∀ v ∈ vs, v.oneCell' = true) →
    (storeCells ⟨g, o, none⟩ vs i).run P w = .ok () (w.setRow g (cur.toList.take (o + i) ++ vs ++ cur.toList.drop (o + i + vs.length)).toArray)
  | [], i, cur, w, _, hg, _, _ => by
    simp only [storeCells, List.append_nil, List.length_nil, Nat.add_zero, List.take_append_drop, Array.toArray_toList]
    rw [setRow_self w g cur t f hg]
    rfl
  | v :: rest, i, cur, w, hf, hg, hl, h1 => by
    have hi : o + i < cur.size := by simp at hl; omega
    have hadd : (⟨g, o, none⟩ : Addr).add i = ⟨g, o + i, none⟩ := by unfold Addr.add; split <;> simp_all
    have hcell : w.cell? ⟨g, o + i, none⟩ = some cur[o + i] := by simp [World.cell?, hg, hi]
    have hfro : w.frozen? ⟨g, o + i, none⟩ = false := by
      rcases hf with hf | hf
      · simp [World.frozen?, hg, hf]
      · obtain ⟨f1, f2⟩ := f
        simp [World.frozen?, hg] at hf ⊢
        omega
    have hst : (store ((⟨g, o, none⟩ : Addr).add i) v).run P w = .ok () (w.setRow g (cur.setIfInBounds (o + i) v)) := by
      rw [hadd, run_store P w _ v _ (h1 v (by simp)), hcell]
      simp [hfro, setCell_eq_setRow w g (o + i) cur t f v hg]
    have ih := run_storeCells_atF (P := P) g o t f rest (i + 1) (cur.setIfInBounds (o + i) v) (w.setRow g (cur.setIfInBounds (o + i) v)) (by simpa using hf) (setRow_heap w g cur _ t _ hg) (by simp at hl ⊢; omega) (fun x hx => h1 x (by simp [hx]))
    simp only [storeCells, Sem.run_bind, hst, Result.andThen_ok, ih, setRow_setRow]
    congr 3
    have e := list_seg_step cur.toList (o + i) v rest (by simp at hl ⊢; omega)
    simpa [Array.toList_setIfInBounds, Nat.add_assoc] using e

theorem run_append_roomF {P : Program} {t : TypeId} (w : World) (ty e : TypeId) (i : TypeInfo) (ht : P.underlying t = some (.slice e)) (hi : P.info? e = some i)
    (g sLen sCap : Nat) (cur : Array Value) (f : Nat × Nat) (hf : f = (0, 0) ∨ cur.size ≤ f.1) (hg : w.heap[g]? = some (.cells cur e f))
    (a : Addr) (m c : Nat) (news : List Value) (hl : news.length = m * i.size) (hnews : ∀ j u, news[j]? = some u → w.cell? (a.add j) = some u) (h1 : ∀ u ∈ news, u.oneCell' = true)
    (hroom : sLen + m ≤ sCap) (hfit : sLen * i.size + news.length ≤ cur.size) :
    (Builtin.append_ #[t, t] ty #[.slice (some ⟨g, 0, none⟩) sLen sCap, .slice (some a) m c]).run P w =
      .ok (.slice (some ⟨g, 0, none⟩) (sLen + m) sCap) (w.setRow g (cur.toList.take (sLen * i.size) ++ news ++ cur.toList.drop (sLen * i.size + news.length)).toArray) := by
  have hfc := run_firstCells_some (P := P) w i.size m a m c news hl hnews
  have hst := run_storeCells_atF (P := P) g (sLen * i.size) e f news 0 cur w hf hg (by simpa using hfit) h1
  simp only [Nat.add_zero] at hst
  simp [Builtin.append_, run_underlying ht, sizeOf, typeInfo, hi, Builtin.lenOf, hroom, hfc, Addr.add_lit, hst]

/-- Appending to a slice of one's own. -/
theorem run_append {e : TypeId} {sz bytes : Nat} (T : ElemT P t e sz bytes) {ob : Option Nat} {cap nn mm c2 : Nat} {xs news : List Value} {p2 : Option Addr} {w : World} (hA : (own ob cap e sz nn xs).A w)
    (hl : news.length = mm * sz) (hp : p2 = none → mm = 0) (hnews : ∀ a, p2 = some a → ∀ j u, news[j]? = some u → w.cell? (a.add j) = some u) (h1 : ∀ u ∈ news, u.oneCell' = true)
    (hm : nn + mm ≤ maxLen) (hby : (nn + mm) * bytes ≤ 140737488355328) :
    ∃ ob' cap' w', (Builtin.append_ #[t, t] ty #[slO ob nn cap, .slice p2 mm c2]).run P w = .ok (slO ob' (nn + mm) cap') w' ∧ (own ob' cap' e sz (nn + mm) (xs ++ news)).A w' ∧ Keeps ob.toList w w' ∧
      (∀ b ∈ ob'.toList, b ∈ ob.toList ∨ w.heap.size ≤ b) ∧ (nn + mm = 0 ∨ ob'.isSome = true) := by
  obtain ⟨ii, z', hi, hz, hsz, hb, hzs⟩ := T.inf
  have hlen : (xs ++ news).length = (nn + mm) * sz := by rw [List.length_append, hA.1, hl, Nat.add_mul]
  have h63 : ((nn + mm : Nat) : Int) ≤ 9223372036854775807 := by simp only [maxLen] at hm; omega
  -- a new block
  have grown : ∀ (olds : List Value) (old : Nat), olds.length = nn * sz → olds = xs → old < nn + mm →
      (own (some w.heap.size) (grownCap w (nn + mm) old e) e sz (nn + mm) (xs ++ news)).A
        (w.drew.alloc (.cells (olds.toArray ++ news.toArray ++ Builtin.zeroCells z'.cells (grownCap w (nn + mm) old e - (nn + mm))) e)) ∧
      Keeps ob.toList w (w.drew.alloc (.cells (olds.toArray ++ news.toArray ++ Builtin.zeroCells z'.cells (grownCap w (nn + mm) old e - (nn + mm))) e)) := by
    rintro olds old _ rfl ho
    have hge := grownCap_ge w (nn + mm) old e
    have hcm : grownCap w (nn + mm) old e ≤ maxLen := grownCap_le_maxLen w (nn + mm) old e hm
    refine ⟨⟨hlen, hge, hcm, (Builtin.zeroCells z'.cells (grownCap w (nn + mm) old e - (nn + mm))).toList, ?_, ?_⟩, (Keeps.drew _ w _ (Nat.le_succ _)).trans (Keeps.alloc _ w.drew _)⟩
    · refine ⟨(0, 0), ?_, .inl rfl⟩
      have := heap_alloc_same w.drew (.cells (olds.toArray ++ news.toArray ++ Builtin.zeroCells z'.cells (grownCap w (nn + mm) old e - (nn + mm))) e)
      have hs : w.drew.heap.size = w.heap.size := rfl
      rw [hs] at this
      rw [this]
      congr 2
      apply Array.toList_inj.1
      simp
    · have hzc : (Builtin.zeroCells z'.cells (grownCap w (nn + mm) old e - (nn + mm))).size = (grownCap w (nn + mm) old e - (nn + mm)) * sz := by rw [size_zeroCells, hzs]
      rw [List.length_append, hlen, Array.length_toList, hzc, ← Nat.add_mul]
      congr 1; omega
  have nonil : ∀ a c, p2 = some a → (∀ j u, news[j]? = some u → w.cell? (a.add j) = some u) → ∃ ob' cap' w', (Builtin.append_ #[t, t] ty #[slO ob nn cap, .slice (some a) mm c]).run P w = .ok (slO ob' (nn + mm) cap') w' ∧ (own ob' cap' e sz (nn + mm) (xs ++ news)).A w' ∧ Keeps ob.toList w w' ∧
      (∀ b ∈ ob'.toList, b ∈ ob.toList ∨ w.heap.size ≤ b) ∧ (nn + mm = 0 ∨ ob'.isSome = true) := by
    intro a c ha hn
    subst hsz
    subst hb
    cases ob with
    | none =>
      obtain ⟨hx0, hn0, hc0⟩ := hA
      subst hn0; subst hc0
      have hxs : xs = [] := List.eq_nil_of_length_eq_zero (by simpa using hx0)
      subst hxs
      by_cases hm0 : mm = 0
      · subst hm0
        have : news = [] := List.eq_nil_of_length_eq_zero (by simpa using hl)
        subst this
        refine ⟨none, 0, w, ?_, ⟨by simp, by simp⟩, Keeps.refl _ _, by simp, .inl rfl⟩
        have hf := run_firstCells_some (P := P) w ii.size 0 a 0 c [] (by simp) (by simp)
        simp [Builtin.append_, run_underlying T.ut, sizeOf, typeInfo, hi, Builtin.lenOf, hf, slO]
      · have hr := run_append_nil (P := P) w t ty e ii z' T.ut hi hz a mm c news hl hn (by omega) (by simpa using h63) (by simp at hby; omega)
        obtain ⟨g1, g2⟩ := grown [] 0 (by simp) rfl (by omega)
        simp only [Nat.zero_add] at g1 g2 ⊢
        refine ⟨some w.heap.size, _, _, hr, ?_, ?_, by simp, .inr rfl⟩
        · simpa using g1
        · simpa using g2
    | some b =>
      obtain ⟨hx0, hnc, hcm, rest, ⟨f, hg, hfz⟩, hgl⟩ := hA
      by_cases hroom : nn + mm ≤ cap
      · have hfit : nn * ii.size + news.length ≤ (xs ++ rest).toArray.size := by
          have := Nat.mul_le_mul_right ii.size hroom
          simp only [List.size_toArray, hgl, hl, ← Nat.add_mul]; exact this
        have hr := run_append_roomF (P := P) (t := t) w ty e ii T.ut hi b nn cap (xs ++ rest).toArray f (hfz.imp id (fun h => by rw [List.size_toArray, hgl]; exact h)) hg a mm c news hl hn h1 hroom hfit
        refine ⟨some b, cap, _, hr, ⟨hlen, hroom, hcm, (xs ++ rest).drop (nn * ii.size + news.length), ?_, ?_⟩, Keeps.setRow, by simp, .inr rfl⟩
        · refine ⟨f, ?_, hfz⟩
          rw [setRow_heap w b _ _ e _ hg]
          congr 3
          simp [← hx0]
        · rw [List.length_append, hlen, List.length_drop, hgl, hl, ← Nat.add_mul]
          have := Nat.mul_le_mul_right ii.size hroom
          omega
      · have holds : ∀ j u, xs[j]? = some u → w.cell? ((⟨b, 0, none⟩ : Addr).add j) = some u := fun j u hj => by
          have hlt : j < xs.length := (List.getElem?_eq_some_iff.1 hj).1
          rw [add_none]
          simp only [World.cell?, hg]
          simp [List.getElem?_append, hlt, (List.getElem?_eq_some_iff.1 hj).2]
        have hr := run_append_grow (P := P) w t ty e ii z' T.ut hi hz ⟨b, 0, none⟩ nn cap xs hx0 holds a mm c news hl hn (by omega) h63 (growslice_fits (by omega) hby)
        obtain ⟨g1, g2⟩ := grown xs cap hx0 rfl (by omega)
        exact ⟨some w.heap.size, _, _, hr, g1, g2, by simp, .inr rfl⟩
  cases p2 with
  | some a => exact nonil a c2 rfl (hnews a rfl)
  | none =>
    have := hp rfl
    subst this
    have : news = [] := List.eq_nil_of_length_eq_zero (by simpa using hl)
    subst this
    refine ⟨ob, cap, w, ?_, by simpa using hA, Keeps.refl _ _, fun b hb => .inl hb, ?_⟩
    · cases ob with
      | none =>
        obtain ⟨hx0, hn0, hc0⟩ := hA
        subst hn0; subst hc0
        simp [Builtin.append_, run_underlying T.ut, sizeOf, typeInfo, hi, Builtin.lenOf, Builtin.firstCells, slO]
      | some b =>
        obtain ⟨hx0, hnc, hcm, rest, ⟨f, hg, hfz⟩, hgl⟩ := hA
        simp [Builtin.append_, run_underlying T.ut, sizeOf, typeInfo, hi, Builtin.lenOf, Builtin.firstCells, slO, hnc, storeCells]
    · cases ob with
      | none => exact .inl (by have := hA.2.1; omega)
      | some b => exact .inr rfl

/-- What a slice holds, wherever it lies. -/
def Src (I H : List It) (p : Option Addr) (mm sz : Nat) (xs : List Value) : Prop :=
  ∀ w, Sat I H w → xs.length = mm * sz ∧ (p = none → mm = 0) ∧ ∀ a, p = some a → ∀ j u, xs[j]? = some u → w.cell? (a.add j) = some u

theorem Src.sls {p : Option Addr} {nn sz : Nat} {xs : List Value} (hm : PK.sls p sz nn xs ∈ I) : Src I H p nn sz xs := fun w hw => by
  have := hw.i _ hm
  refine ⟨this.1, ?_, ?_⟩
  · rintro rfl; exact this.2
  · rintro a rfl; exact this.2.2
theorem Src.own {ob : Option Nat} {cap sz nn : Nat} {e : TypeId} {xs : List Value} (hm : PK.own ob cap e sz nn xs ∈ H) : Src I H (ob.map fun b => ⟨b, 0, none⟩) nn sz xs := fun w hw => by
  have := own_sls (hw.h _ hm)
  refine ⟨this.1, ?_, ?_⟩
  · intro h; rw [h] at this; exact this.2
  · intro a h; rw [h] at this; exact this.2.2
theorem Src.cel {b mm sz : Nat} {cs : List Value} {T : TypeId} (hm : PK.cel b cs T ∈ H) (hl : cs.length = mm * sz) : Src I H (some ⟨b, 0, none⟩) mm sz cs := fun w hw =>
  ⟨hl, fun h => (by cases h), fun a h j u hj => by cases h; rw [add_none, cell_of_cel (hw.h _ hm), Nat.zero_add]; exact hj⟩
/-- A part of it. -/
theorem Src.sub {p : Option Addr} {nn sz lo hi cap : Nat} {xs : List Value} (h : Src I H p nn sz xs) (h1 : lo ≤ hi) (h2 : hi ≤ nn) (h3 : cap = lo → lo = hi) : Src I H (if cap = lo then p else p.map (·.add (lo * sz))) (hi - lo) sz ((xs.drop (lo * sz)).take ((hi - lo) * sz)) := fun w hw => by
  obtain ⟨g1, g2, g3⟩ := h w hw
  have hm1 : lo * sz ≤ hi * sz := Nat.mul_le_mul_right _ h1
  have hm2 : hi * sz ≤ nn * sz := Nat.mul_le_mul_right _ h2
  refine ⟨by rw [List.length_take, List.length_drop, g1, Nat.sub_mul]; omega, ?_, ?_⟩
  · intro hp
    by_cases hc : cap = lo
    · have := h3 hc; omega
    · rw [if_neg hc] at hp
      have := g2 (by simpa using hp); omega
  · intro a ha j u hj
    have hlt : j < (hi - lo) * sz := by have := (List.getElem?_eq_some_iff.1 hj).1; rw [List.length_take] at this; omega
    by_cases hc : cap = lo
    · have := h3 hc; subst this; simp at hlt
    · rw [if_neg hc] at ha
      cases p with
      | none => simp at ha
      | some q =>
        simp only [Option.map_some, Option.some.injEq] at ha
        subst ha
        rw [add_add]
        refine g3 q rfl (lo * sz + j) u ?_
        rw [List.getElem?_take, if_pos hlt, List.getElem?_drop] at hj
        exact hj

theorem RL.append {e : TypeId} {sz bytes : Nat} {ob : Option Nat} {cap nn mm c2 : Nat} {xs news : List Value} {p2 : Option Addr} {B : List It} (T : ElemT P t e sz bytes)
    (ho : nth L i = some ⟨some d, .call ⟨.builtin .append, #[x, y], #[t, t]⟩, ty, pos, af, g⟩) (hw : wants L E ⟨some d, .call ⟨.builtin .append, #[x, y], #[t, t]⟩, ty, pos, af, g⟩ = true) (hN : Nat.blt d N = true) (hi : ef.contains i = true) (hb : bk.contains i = true)
    (hx : E.ev x = some (slO ob nn cap)) (hy : E.ev y = some (.slice p2 mm c2)) (hs : Src I H p2 mm sz news) (h1 : ∀ u ∈ news, u.oneCell' = true) (hm : nn + mm ≤ maxLen) (hby : (nn + mm) * bytes ≤ 140737488355328)
    (hp : Pick H [PK.own ob cap e sz nn xs] B) (h : ∀ ob' cap', (nn + mm = 0 ∨ ob'.isSome = true) → RL P L ef bk tq Q l N ((d, slO ob' (nn + mm) cap') :: E) w0 S I (PK.own ob' cap' e sz (nn + mm) (xs ++ news) :: B)) :
    RL P L ef bk tq Q (.cons i l) N E w0 S I H := by
  refine RL.eff ho hw hi rfl hN (fun a w ha hC => ?_)
  obtain ⟨s1, s2, s3⟩ := hs w hC.s
  have hA : (PK.own ob cap e sz nn xs).A w := hC.s.h _ (hp.memA _ (by simp))
  obtain ⟨ob', cap', w', r1, r2, r3, r4, r5⟩ := run_append (ty := ty) T hA s1 s2 s3 h1 hm hby (c2 := c2)
  unfold does
  rw [exec_append (ha.ev hx) (ha.ev hy) r1]
  have hs' : Sat [] [PK.own ob' cap' e sz (nn + mm) (xs ++ news)] w' := ⟨by simp, by simpa using r2, by cases ob' <;> simp [PK.own], by simp⟩
  have hk : Keeps (bss [PK.own ob cap e sz nn xs]) w w' := by simpa [PK.own] using r3
  have := hC.call (C := []) hp .nil hk hs' (by simpa [PK.own] using r4) (by simp)
  exact ⟨I, _, this, fun _ h => h, fun hbk => (by rw [hb] at hbk; cases hbk), h ob' cap' r5⟩

/-- Appending without room. -/
theorem run_appendNew {e : TypeId} {sz bytes : Nat} {p : Option Addr} {nn cap mm c2 : Nat} {xs news : List Value} {p2 : Option Addr} {w : World} (T : ElemT P t e sz bytes) (q1 : xs.length = nn * sz) (q2 : p = none → nn = 0)
    (q3 : ∀ a, p = some a → ∀ j u, xs[j]? = some u → w.cell? (a.add j) = some u) (s1 : news.length = mm * sz) (s2 : p2 = none → mm = 0) (s3 : ∀ a, p2 = some a → ∀ j u, news[j]? = some u → w.cell? (a.add j) = some u)
    (hroom : cap < nn + mm) (hm : nn + mm ≤ maxLen) (hby : (nn + mm) * bytes ≤ 140737488355328) :
    ∃ w', (Builtin.append_ #[t, t] ty #[.slice p nn cap, .slice p2 mm c2]).run P w = .ok (.slice (some ⟨w.heap.size, 0, none⟩) (nn + mm) (grownCap w (nn + mm) cap e)) w' ∧ Grow w w' ∧
      (PK.own (some w.heap.size) (grownCap w (nn + mm) cap e) e sz (nn + mm) (xs ++ news)).A w' := by
  obtain ⟨ii, z', hi', hz, hsz, hbb, hzs⟩ := T.inf
  have h63 : ((nn + mm : Nat) : Int) ≤ 9223372036854775807 := by simp only [maxLen] at hm; omega
  have hlen : (xs ++ news).length = (nn + mm) * sz := by rw [List.length_append, q1, s1, Nat.add_mul]
  have hge := grownCap_ge w (nn + mm) cap e
  have hcm : grownCap w (nn + mm) cap e ≤ maxLen := grownCap_le_maxLen w (nn + mm) cap e hm
  have key : (Builtin.append_ #[t, t] ty #[.slice p nn cap, .slice p2 mm c2]).run P w = .ok (.slice (some ⟨w.heap.size, 0, none⟩) (nn + mm) (grownCap w (nn + mm) cap e))
      (w.drew.alloc (.cells (xs.toArray ++ news.toArray ++ Builtin.zeroCells z'.cells (grownCap w (nn + mm) cap e - (nn + mm))) e)) := by
    have hfit := growslice_fits hroom hby
    subst hsz; subst hbb
    have hf1 : ∀ w' : World, (∀ a, w'.cell? a = w.cell? a) → (Builtin.firstCells ii.size nn (.slice p nn cap)).run P w' = .ok xs.toArray w' := by
      intro w' hw'
      cases p with
      | none =>
        have := q2 rfl; subst this
        have : xs = [] := List.eq_nil_of_length_eq_zero (by simpa using q1)
        subst this; simp [Builtin.firstCells]
      | some q => exact run_firstCells_some (P := P) w' ii.size nn q nn cap xs q1 (fun j u hj => by rw [hw']; exact q3 q rfl j u hj)
    have hf2 : ∀ w' : World, (∀ a, w'.cell? a = w.cell? a) → (Builtin.firstCells ii.size mm (.slice p2 mm c2)).run P w' = .ok news.toArray w' := by
      intro w' hw'
      cases p2 with
      | none =>
        have := s2 rfl; subst this
        have : news = [] := List.eq_nil_of_length_eq_zero (by simpa using s1)
        subst this; simp [Builtin.firstCells]
      | some q => exact run_firstCells_some (P := P) w' ii.size mm q mm c2 news s1 (fun j u hj => by rw [hw']; exact s3 q rfl j u hj)
    have hd1 := hf1 w.drew (fun _ => rfl)
    have hd2 := hf2 w.drew (fun _ => rfl)
    have hn : ¬ (nn + mm ≤ cap) := by omega
    have h63' : ¬ (9223372036854775807 < ((nn : Int) + (mm : Int))) := by omega
    have h48' : ¬ (281474976710656 < Builtin.nextslicecap (nn + mm) cap * ii.bytes) := by omega
    simp [Builtin.append_, run_underlying T.ut, sizeOf, typeInfo, zeroValue, hi', hz, Builtin.lenOf, hn, h63', h48', Question.forced, hd1, hd2, newRow, grownCap]
    congr 2
    apply Array.ext'
    simp [List.append_assoc]
  have hdr : w.drew.heap.size = w.heap.size := rfl
  refine ⟨_, key, (Keeps.drew _ w _ (Nat.le_succ _)).trans (Keeps.alloc _ w.drew _), hlen, hge, hcm, (Builtin.zeroCells z'.cells (grownCap w (nn + mm) cap e - (nn + mm))).toList, ?_, ?_⟩
  · refine ⟨(0, 0), ?_, .inl rfl⟩
    have := heap_alloc_same w.drew (.cells (xs.toArray ++ news.toArray ++ Builtin.zeroCells z'.cells (grownCap w (nn + mm) cap e - (nn + mm))) e)
    rw [hdr] at this
    rw [this]
    congr 2
    apply Array.toList_inj.1
    simp
  · have hzc : (Builtin.zeroCells z'.cells (grownCap w (nn + mm) cap e - (nn + mm))).size = (grownCap w (nn + mm) cap e - (nn + mm)) * sz := by rw [size_zeroCells, hzs]
    rw [List.length_append, hlen, Array.length_toList, hzc, ← Nat.add_mul]
    congr 1; omega

/-- Appending to a slice that is not one's own, without room: a new one comes. -/
theorem RL.appendNew {e : TypeId} {sz bytes : Nat} {p : Option Addr} {nn cap mm c2 : Nat} {xs news : List Value} {p2 : Option Addr} (T : ElemT P t e sz bytes)
    (ho : nth L i = some ⟨some d, .call ⟨.builtin .append, #[x, y], #[t, t]⟩, ty, pos, af, g⟩) (hw : wants L E ⟨some d, .call ⟨.builtin .append, #[x, y], #[t, t]⟩, ty, pos, af, g⟩ = true) (hN : Nat.blt d N = true) (hi : ef.contains i = true)
    (hx : E.ev x = some (.slice p nn cap)) (hy : E.ev y = some (.slice p2 mm c2)) (hs1 : Src I H p nn sz xs) (hs : Src I H p2 mm sz news) (hroom : cap < nn + mm) (hm : nn + mm ≤ maxLen) (hby : (nn + mm) * bytes ≤ 140737488355328)
    (h : ∀ b cap', RL P L ef bk tq Q l N ((d, .slice (some ⟨b, 0, none⟩) (nn + mm) cap') :: E) w0 S I (PK.own (some b) cap' e sz (nn + mm) (xs ++ news) :: H)) :
    RL P L ef bk tq Q (.cons i l) N E w0 S I H := by
  refine RL.eff ho hw hi rfl hN (fun a w ha hC => ?_)
  obtain ⟨s1, s2, s3⟩ := hs w hC.s
  obtain ⟨q1, q2, q3⟩ := hs1 w hC.s
  obtain ⟨w', hr, hg, hA⟩ := run_appendNew (ty := ty) T q1 q2 q3 s1 s2 s3 hroom hm hby (c2 := c2)
  unfold does
  rw [exec_append (ha.ev hx) (ha.ev hy) hr]
  exact ⟨I, _, hC.more hg hA (by simp [PK.own]) (by simp [PK.own]), fun _ h => h, fun _ _ h => h.less, h _ _⟩

/-! ### The same things in another order, some left out -/

inductive Del : List It → It → List It → Prop
  | here {x : It} {H : List It} : Del (x :: H) x H
  | there {x y : It} {H B : List It} (h : Del H x B) : Del (y :: H) x (y :: B)

theorem Del.spec {H B : List It} {x : It} (h : Del H x B) : x ∈ H ∧ (∀ y ∈ B, y ∈ H) ∧ (PK.bss H).Perm (x.bs ++ PK.bss B) := by
  induction h with
  | here => exact ⟨by simp, fun y hy => by simp [hy], List.Perm.refl _⟩
  | there h ih =>
    refine ⟨by simp [ih.1], fun y hy => ?_, ?_⟩
    · rcases List.mem_cons.1 hy with rfl | hy
      · simp
      · simp [ih.2.1 y hy]
    · simp only [bss_cons]
      refine (ih.2.2.append_left _).trans ?_
      rw [← List.append_assoc, ← List.append_assoc]
      exact List.perm_append_comm.append_right _

inductive Rea : List It → List It → Prop
  | nil {H : List It} : Rea H []
  | cons {x : It} {H B H' : List It} (d : Del H x B) (r : Rea B H') : Rea H (x :: H')

theorem Rea.spec {H H' : List It} (h : Rea H H') : (∀ y ∈ H', y ∈ H) ∧ (∀ b ∈ PK.bss H', b ∈ PK.bss H) ∧ ((PK.bss H).Nodup → (PK.bss H').Nodup) := by
  induction h with
  | nil => simp
  | cons d r ih =>
    obtain ⟨d1, d2, d3⟩ := d.spec
    refine ⟨fun y hy => ?_, fun b hb => ?_, fun hnd => ?_⟩
    · rcases List.mem_cons.1 hy with rfl | hy
      · exact d1
      · exact d2 y (ih.1 y hy)
    · refine d3.mem_iff.2 ?_
      rcases List.mem_append.1 hb with hb | hb
      · exact List.mem_append_left _ hb
      · exact List.mem_append_right _ (ih.2.1 b hb)
    · have := d3.nodup_iff.1 hnd
      rw [List.nodup_append] at this
      rw [bss_cons, List.nodup_append]
      exact ⟨this.1, ih.2.2 this.2.1, fun b hb b' hb' => this.2.2 b hb b' (ih.2.1 b' hb')⟩

theorem Cls.rea {I' H' : List It} {w : World} (h : Cls w0 S I H w) (hi : ∀ x ∈ I', x ∈ I) (r : Rea H H') : Cls w0 S I' H' w := by
  obtain ⟨r1, r2, r3⟩ := r.spec
  exact ⟨h.k, ⟨fun x hx => h.s.i x (hi x hx), fun x hx => h.s.h x (r1 x hx), r3 h.s.nd, fun b hb hb' => by
    obtain ⟨x, hx, hbx⟩ := mem_bss.1 hb
    exact h.s.dj b (mem_bss.2 ⟨x, hi x hx, hbx⟩) (r2 b hb')⟩, fun b hb => h.own b (r2 b hb)⟩
theorem CW.rea {I' H' : List It} {c : Code} (hi : ∀ x ∈ I', x ∈ I) (r : Rea H H') (h : CW P c Q N E w0 S I' H') : CW P c Q N E w0 S I H := fun a w ha hw => h a w ha (hw.rea hi r)
theorem NQ.rea {I' H' : List It} (hi : ∀ x ∈ I', x ∈ I) (r : Rea H H') (h : NQ Q N E w0 S I' H') : NQ Q N E w0 S I H := fun a w ha hw => h a w ha (hw.rea hi r)

/-! ### What is lent to a callee -/

theorem Lend.cel {F J : List It} {b off sz nn : Nat} {cs xs : List Value} {T : TypeId} (hm : PK.cel b cs T ∈ F) (hl : xs.length = nn * sz) (hx : ∀ j u, xs[j]? = some u → cs[off + j]? = some u) (h : Lend I F J) : Lend I F (PK.sls (some ⟨b, off, none⟩) sz nn xs :: J) :=
  .of (fun _ hw => cel_sls (hw.h _ hm) hl hx) (fun c hc => .inr (mem_bss.2 ⟨_, hm, by by_cases hn : nn = 0 <;> simp_all [PK.sls, PK.cel]⟩)) h
theorem Lend.all {F J : List It} {b sz nn : Nat} {cs : List Value} {T : TypeId} (hm : PK.cel b cs T ∈ F) (hl : cs.length = nn * sz) (h : Lend I F J) : Lend I F (PK.sls (some ⟨b, 0, none⟩) sz nn cs :: J) :=
  .cel hm hl (fun j u hj => by rw [Nat.zero_add]; exact hj) h
theorem Lend.own {F J : List It} {ob : Option Nat} {cap sz nn : Nat} {e : TypeId} {xs : List Value} (hm : PK.own ob cap e sz nn xs ∈ F) (h : Lend I F J) : Lend I F (PK.sls (ob.map fun b => ⟨b, 0, none⟩) sz nn xs :: J) :=
  .of (fun _ hw => own_sls (hw.h _ hm)) (fun c hc => .inr (mem_bss.2 ⟨_, hm, by by_cases hn : nn = 0 <;> cases ob <;> simp_all [PK.sls, PK.own]⟩)) h

/-! ### A law's end -/

theorem Spc.law {f : FuncId} {args : Array Value} {u : Value} {w : World} (h : Spc P f args I [] (Is u)) (hw : Sat I [] w) : Calls P f args w (fun e w' => e = .returned u ∧ RowKit.Below w.heap.size w w') :=
  (h w hw).mono fun _ _ ⟨_, _, _, he, ⟨hv, _, _⟩, hk, _⟩ => ⟨by rw [he, hv], ⟨hk.os, hk.tape, hk.output, hk.size, fun b hb => hk.block b hb (by simp)⟩⟩

theorem Sat.one {x : It} {w : World} (h : x.A w) : Sat [x] [] w := ⟨by simpa using h, by simp, by simp, by simp⟩
theorem Sat.none (w : World) : Sat [] [] w := ⟨by simp, by simp, by simp, by simp⟩

/-- A slice that came in. -/
theorem sls_arg {p : Option Addr} {len : Nat} {vs : List Value} {w : World} (h : (p = none ∧ len = 0) ∨ ∃ x, p = some x ∧ len ≤ vs.length ∧ ∀ j u, vs[j]? = some u → w.cell? (x.add j) = some u) : (PK.sls p 1 len (vs.take len)).A w := by
  rcases h with ⟨rfl, rfl⟩ | ⟨x, rfl, hl, hc⟩
  · exact ⟨by simp, rfl⟩
  · refine ⟨by rw [List.length_take]; omega, fun hn => ?_, fun j u hj => ?_⟩
    · have h0 : 0 < vs.length := by omega
      have := hc 0 vs[0] (by simp [h0])
      have ha : x.add 0 = x := by simp [Addr.add]
      rw [ha] at this
      unfold World.cell? at this
      rcases Nat.lt_or_ge x.block w.heap.size with h | h
      · exact h
      · rw [Array.getElem?_eq_none h] at this; cases this
    · rw [List.getElem?_take] at hj
      split at hj
      · exact hc j u hj
      · cases hj

/-! ### A result that lies in memory -/

theorem resC {fn : Func} {tt : Tmp} {T : TypeId} {p : Addr} {vs : List Value} (hf : fn.results = #[.cell tt T]) (ht : E.get tt = some (.pointer (some p))) (hag : ∀ w, (isAgg T).run P w = .ok true w) (hs : ∀ w, (sizeOf T).run P w = .ok vs.length w) (hr : Rds I H p vs) :
    ∀ a w, Ag N a E → Cls w0 S I H w → (results fn a.tmps).run P w = .ok (.agg vs.toArray) w := fun a w ha hC => by
  have := run_isAggT (P := P) hag hs (hr w hC.s)
  simp [results, hf, ha.t tt _ ht, asAddr, this]

end
end Go.PK
