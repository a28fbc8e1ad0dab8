import Derived.Test.YthgjgeapfndeeaaGreatDoorPE
import Derived.Sort.Row
import Derived.Sort.Grow
import Derived.Test.YthgjgeapfndeeaaGreatDoorKX
import Derived.Shelf.SlGeneric
import Derived.Shelf.SortM.Plain
import Derived.Shelf.SortM.SortNone
import Derived.Ground.SlgmProg
import Derived.Test.YthgjgeapfndeeaaGreatDoorSameInts
set_option linter.unusedVariables false
set_option linter.unusedSimpArgs false
/-
  PK, part S: the kit's contracts on sorting, as contracts over one's own things.
-/
namespace Go.PK
open Go.Sort

theorem putCells_row {α : Type} [Inhabited α] (enc : α → Value) (d : List α) (xs rest : List Value) (h : xs.length = d.length) : putCells enc 0 d.toArray (xs ++ rest).toArray = (d.map enc ++ rest).toArray := by
  apply Array.ext'
  simp only [putCells, Array.toList_mapIdx]
  apply List.ext_getElem?
  intro k
  simp only [List.getElem?_mapIdx, List.size_toArray, Nat.zero_le, true_and, Nat.zero_add, Nat.sub_zero]
  by_cases hk : k < d.length
  · rw [List.getElem?_append_left (by omega), List.getElem?_append_left (by simpa using hk), List.getElem?_map, List.getElem?_eq_getElem (by omega), List.getElem?_eq_getElem hk]
    simp [hk]
  · rw [List.getElem?_append_right (by omega), List.getElem?_append_right (by simpa using hk), List.length_map, h]
    cases rest[k - d.length]? with
    | none => rfl
    | some v => simp [hk]
/-- What a sort leaves of a row of one's own. -/
theorem sorted_own {α : Type} [Inhabited α] (enc : α → Value) {b cap n sz m : Nat} {e : TypeId} {xs : List Value} {d : List α} {w : World} {os : Array Obj} (hA : (own (some b) cap e sz n xs).A w) (hl : d.length = xs.length) :
    (own (some b) cap e sz n (d.map enc)).A (grow (putRow enc (Sort.ahead w m) b 0 d.toArray) os) ∧ Keeps [b] w (grow (putRow enc (Sort.ahead w m) b 0 d.toArray) os) := by
  obtain ⟨h1, h2, h3, rest, ⟨f, h4, h6⟩, h5⟩ := hA
  have hb : b < w.heap.size := (Array.getElem?_eq_some_iff.1 h4).1
  have hget : ∀ c, c < w.heap.size → (grow (putRow enc (Sort.ahead w m) b 0 d.toArray) os).heap[c]? = (w.heap.modify b (onCells (putCells enc 0 d.toArray)))[c]? := fun c hc => by
    show (w.heap.modify b (onCells (putCells enc 0 d.toArray)) ++ os)[c]? = _
    rw [Array.getElem?_append_left (by simpa using hc)]
  refine ⟨⟨by rw [List.length_map, hl, h1], h2, h3, rest, ⟨f, ?_, h6⟩, ?_⟩, ⟨rfl, rfl, rfl, ?_, ?_, by first | exact Nat.le_add_right _ _ | exact Nat.le_refl 0⟩⟩
  · rw [hget b hb, Array.getElem?_modify, if_pos rfl, h4]
    show some (onCells _ (Obj.cells (xs ++ rest).toArray e f)) = _
    rw [onCells, putCells_row enc d xs rest hl.symm]
  · rw [List.length_append, List.length_map, hl, ← List.length_append]; exact h5
  · show w.heap.size ≤ (w.heap.modify b _ ++ os).size
    simp
  · intro c hc hn
    rw [hget c hc, Array.getElem?_modify, if_neg (by intro h; subst h; exact hn (by simp))]
theorem own_holds {α : Type} [Inhabited α] (enc : α → Value) {b cap n : Nat} {e : TypeId} {d : List α} {w : World} (hA : (own (some b) cap e 1 n (d.map enc)).A w) : Holds enc w b 0 d.toArray ∧ b < w.heap.size ∧ d.length = n := by
  obtain ⟨h1, h2, h3, rest, ⟨f, h4, h6⟩, h5⟩ := hA
  have hb : b < w.heap.size := (Array.getElem?_eq_some_iff.1 h4).1
  have hn : d.length = n := by simpa using h1
  refine ⟨fun j hj => ?_, hb, hn⟩
  have hj : j < d.length := by simpa using hj
  constructor
  · simp [World.cell?, h4, List.getElem?_append_left, hj]
  · simp only [World.frozen?, h4, Nat.zero_add]
    rcases h6 with rfl | h6
    · simp
    · simp; omega
/-- slices.Sort, of one's own numbers. -/
theorem sort_ints {P : Program} {f : FuncId} (hC : ∀ (blk off cap : Nat) (zs : List Int) (w : World), Holds (Value.int .i64) w blk off zs.toArray → blk < w.heap.size → zs.length < 4611686018427387904 →
      Calls P f #[.slice (some ⟨blk, off, none⟩) zs.length cap] w fun e w' => e = .returned (.tuple #[]) ∧ ∃ n os, w' = grow (putRow (Value.int .i64) (Sort.ahead w n) blk off (zs.mergeSort fun x y => decide (x ≤ y)).toArray) os)
    (b cap n : Nat) (e : TypeId) (zs : List Int) (hn : zs.length = n) (hb : n < 4611686018427387904) :
    Spc P f #[slO (some b) n cap] [] [own (some b) cap e 1 n (zs.map (Value.int .i64))] (fun v I' H' => v = .tuple #[] ∧ I' = [] ∧ H' = [own (some b) cap e 1 n ((zs.mergeSort fun x y => decide (x ≤ y)).map (Value.int .i64))]) := by
  intro w hw
  have hA := hw.h _ (List.Mem.head _)
  obtain ⟨hH, hb', -⟩ := own_holds _ hA
  subst hn
  refine (hC b 0 cap zs w hH hb' hb).mono ?_
  rintro e' w' ⟨rfl, m, os, rfl⟩
  obtain ⟨k1, k2⟩ := sorted_own (Value.int .i64) (m := m) (os := os) (d := zs.mergeSort fun x y => decide (x ≤ y)) hA (by rw [List.length_mergeSort, List.length_map])
  refine ⟨_, [], _, rfl, ⟨rfl, rfl, rfl⟩, k2, ⟨by simp, fun x hx => ?_, by simp [own], by simp⟩, fun c hc => .inl hc, by simp⟩
  rw [List.mem_singleton.1 hx]; exact k1
end Go.PK

namespace Go.Proofs
open Go.Shelf
def Tryz.sortI_ren : Go.Shelf.Ren := ⟨fun | 5 => 306 | 8 => 394 | 7 => 393 | 19 => 461 | 20 => 410 | 10 => 452 | 11 => 453 | 12 => 454 | 13 => 455 | 14 => 456 | 15 => 457 | 16 => 458 | 17 => 459 | 18 => 460 | 30 => 496 | 31 => 497 | 32 => 498 | 33 => 499 | 34 => 500 | 35 => 501 | 40 => 519 | n => n, fun | 23 => 237 | 25 => 3 | 3 => 3 | 32 => 297 | 22 => 237 | 0 => 0 | 44 => 90 | 46 => 33 | 4 => 4 | 36 => 719 | 35 => 718 | 41 => 723 | 5 => 5 | 9 => 9 | 53 => 751 | 57 => 755 | 63 => 771 | 64 => 56 | n => n, fun | n => n⟩
theorem Tryz.sortI : Go.Proofs.SlLaysM.n5 Tryz.prog Tryz.sortI_ren := {
  mixed := by kernel_rfl
  f5 := ⟨Tryz.f306.name, by decide, Tryz.func306.trans (congrArg some (by kernel_rfl))⟩
  f7 := ⟨Tryz.f393.name, by decide, Tryz.func393.trans (congrArg some (by kernel_rfl))⟩
  f8 := Tryz.func394.trans (congrArg some (by kernel_rfl))
  f10 := ⟨Tryz.f452.name, by decide, Tryz.func452.trans (congrArg some (by kernel_rfl))⟩
  f11 := ⟨Tryz.f453.name, by decide, Tryz.func453.trans (congrArg some (by kernel_rfl))⟩
  f12 := ⟨Tryz.f454.name, by decide, Tryz.func454.trans (congrArg some (by kernel_rfl))⟩
  f13 := ⟨Tryz.f455.name, by decide, Tryz.func455.trans (congrArg some (by kernel_rfl))⟩
  f14 := ⟨Tryz.f456.name, by decide, Tryz.func456.trans (congrArg some (by kernel_rfl))⟩
  f15 := ⟨Tryz.f457.name, by decide, Tryz.func457.trans (congrArg some (by kernel_rfl))⟩
  f16 := ⟨Tryz.f458.name, by decide, Tryz.func458.trans (congrArg some (by kernel_rfl))⟩
  f17 := ⟨Tryz.f459.name, by decide, Tryz.func459.trans (congrArg some (by kernel_rfl))⟩
  f18 := ⟨Tryz.f460.name, by decide, Tryz.func460.trans (congrArg some (by kernel_rfl))⟩
  f19 := Tryz.func461.trans (congrArg some (by kernel_rfl))
  f20 := Tryz.func410.trans (congrArg some (by kernel_rfl))
  f30 := ⟨Tryz.f496.name, by decide, Tryz.func496.trans (congrArg some (by kernel_rfl))⟩
  f31 := Tryz.func497.trans (congrArg some (by kernel_rfl))
  f32 := Tryz.func498.trans (congrArg some (by kernel_rfl))
  f33 := ⟨Tryz.f499.name, by decide, Tryz.func499.trans (congrArg some (by kernel_rfl))⟩
  f34 := ⟨Tryz.f500.name, by decide, Tryz.func500.trans (congrArg some (by kernel_rfl))⟩
  f35 := ⟨Tryz.f501.name, by decide, Tryz.func501.trans (congrArg some (by kernel_rfl))⟩
  f40 := ⟨Tryz.f519.name, by decide, Tryz.func519.trans (congrArg some (by kernel_rfl))⟩
  t0 := Tryz.underlying0
  a0 := Tryz.isAgg0
  z0 := Tryz.sizeOf0
  v0 := Tryz.zeroValue0
  t3 := Tryz.underlying3
  a3 := Tryz.isAgg3
  z3 := Tryz.sizeOf3
  v3 := Tryz.zeroValue3
  t4 := Tryz.underlying4
  a4 := Tryz.isAgg4
  z4 := Tryz.sizeOf4
  v4 := Tryz.zeroValue4
  t5 := Tryz.underlying5
  a5 := Tryz.isAgg5
  z5 := Tryz.sizeOf5
  v5 := Tryz.zeroValue5
  t9 := Tryz.underlying9
  a9 := Tryz.isAgg9
  z9 := Tryz.sizeOf9
  v9 := Tryz.zeroValue9
  t22 := Tryz.underlying237
  a22 := Tryz.isAgg237
  z22 := Tryz.sizeOf237
  v22 := Tryz.zeroValue237
  t23 := Tryz.underlying237
  a23 := Tryz.isAgg237
  z23 := Tryz.sizeOf237
  v23 := Tryz.zeroValue237
  t25 := Tryz.underlying3
  a25 := Tryz.isAgg3
  z25 := Tryz.sizeOf3
  v25 := Tryz.zeroValue3
  t32 := Tryz.underlying297
  a32 := Tryz.isAgg297
  z32 := Tryz.sizeOf297
  v32 := Tryz.zeroValue297
  t35 := Tryz.underlying718
  a35 := Tryz.isAgg718
  z35 := Tryz.sizeOf718
  v35 := Tryz.zeroValue718
  t36 := Tryz.underlying719
  a36 := Tryz.isAgg719
  z36 := Tryz.sizeOf719
  v36 := Tryz.zeroValue719
  t41 := Tryz.underlying723
  a41 := Tryz.isAgg723
  z41 := Tryz.sizeOf723
  v41 := Tryz.zeroValue723
  t44 := Tryz.underlying90
  a44 := Tryz.isAgg90
  z44 := Tryz.sizeOf90
  v44 := Tryz.zeroValue90
  t46 := Tryz.underlying33
  a46 := Tryz.isAgg33
  z46 := Tryz.sizeOf33
  v46 := Tryz.zeroValue33
  t53 := Tryz.underlying751
  a53 := Tryz.isAgg751
  z53 := Tryz.sizeOf751
  v53 := Tryz.zeroValue751
  t57 := Tryz.underlying755
  a57 := Tryz.isAgg755
  z57 := Tryz.sizeOf755
  v57 := Tryz.zeroValue755
  t63 := Tryz.underlying771
  a63 := Tryz.isAgg771
  z63 := Tryz.sizeOf771
  v63 := Tryz.zeroValue771
  t64 := Tryz.underlying56
  a64 := Tryz.isAgg56
  z64 := Tryz.sizeOf56
  v64 := Tryz.zeroValue56 }
end Go.Proofs
namespace Go.Proofs.YthgjgeapfndeeaaGreatDoor
open Go.PK
open Go.Shelf
theorem sortI_any (b cap n : Nat) (zs : List Int) (hn : zs.length = n) (hb : n < 4611686018427387904) : Spc Tryz.prog 306 #[slO (some b) n cap] [] [own (some b) cap 3 1 n (zs.map (Value.int .i64))] (fun v I' H' => v = .tuple #[] ∧ I' = [] ∧ H' = [own (some b) cap 3 1 n ((zs.mergeSort fun x y => decide (x ≤ y)).map (Value.int .i64))]) :=
  sort_ints (fun blk off cap zs w h1 h2 h3 => AnyM.slices_Sort_int Tryz.sortI blk off cap zs w h1 h2 h3) b cap n 3 zs hn hb
theorem sortI_o (ob : Option Nat) (cap n : Nat) (zs : List Int) (hn : zs.length = n) (hb : n < 4611686018427387904) : Spc Tryz.prog 306 #[slO ob n cap] [] [own ob cap 3 1 n (zs.map (Value.int .i64))] (fun v I' H' => v = .tuple #[] ∧ I' = [] ∧ H' = [own ob cap 3 1 n ((zs.mergeSort fun x y => decide (x ≤ y)).map (Value.int .i64))]) := by
  cases ob with
  | some b => exact sortI_any b cap n zs hn hb
  | none =>
    intro w hw
    have hA := hw.h _ (List.Mem.head _)
    have h0 : n = 0 := hA.2.1
    subst h0
    obtain rfl : zs = [] := List.length_eq_zero_iff.1 hn
    refine (AnyM.slices_Sort_int_none Tryz.sortI none cap w).mono ?_
    rintro e' w' ⟨rfl, rfl⟩
    exact ⟨_, [], _, rfl, ⟨rfl, rfl, rfl⟩, Keeps.refl _ _, ⟨by simp, fun x hx => by rw [List.mem_singleton.1 hx]; simpa using hA, by simp [own], by simp⟩, fun c hc => .inl hc, by simp⟩
end Go.Proofs.YthgjgeapfndeeaaGreatDoor

namespace Go.Proofs.YthgjgeapfndeeaaGreatDoor
open Go.PK
/-! ### The sources of a ring, whatever it holds of each -/
def unint : Value → Int
  | .int _ n => n
  | _ => 0
theorem ints_back (l : List Int) : (ints l).map unint = l := by simp [ints, Function.comp_def, unint]
theorem ints_perm {a b : List Int} (h : (ints a).Perm (ints b)) : a.Perm b := by
  have := h.map unint
  rwa [ints_back, ints_back] at this
abbrev sortL (l : List Int) : List Int := l.mergeSort fun x y => decide (x ≤ y)
theorem sortL_perm {a b : List Int} (h : a.Perm b) : sortL a = sortL b := by
  have h1 : (sortL a).Perm (sortL b) := (List.mergeSort_perm a _).trans (h.trans (List.mergeSort_perm b _).symm)
  have p : ∀ l : List Int, (sortL l).Pairwise (fun x y => x ≤ y) := fun l => by
    have := List.pairwise_mergeSort (le := fun x y : Int => decide (x ≤ y)) (fun a b c h1 h2 => by simp at *; omega) (fun a b => by simp; omega) l
    exact this.imp (fun h => by simpa using h)
  exact h1.eq_of_pairwise (fun x y _ _ h1 h2 => Int.le_antisymm h1 h2) (p a) (p b)
theorem perm_erase {α : Type} : ∀ {l : List α} {q : Nat} {p : α}, l[q]? = some p → l.Perm (p :: l.eraseIdx q)
  | a :: l, 0, p, h => by
    obtain rfl : a = p := by simpa using h
    simp
  | a :: l, q + 1, p, h => by
    have := perm_erase (l := l) (q := q) (p := p) (by simpa using h)
    rw [List.eraseIdx_cons_succ]
    exact (this.cons a).trans (List.Perm.swap _ _ _)
theorem sources_c (r m1 m2 : Nat) (zs : List Int) (c : List (Value × Value)) (hc : c.map (·.1) = ints zs) (hl : zs.length ≤ 1000) : Spc Tryz.prog 209 #[.pointer (some ⟨r, 0, none⟩)] [] [ringI r m1 m2, mapI m1 goodI c]
    (fun v I' H' => ∃ ob cp, v = slO ob zs.length cp ∧ I' = [] ∧ H' = [own ob cp 3 1 zs.length (ints (sortL zs)), mapI m1 goodI c, ringI r m1 m2]) := by
  have hcl : c.length = zs.length := by
    have := congrArg List.length hc
    simpa [ints] using this
  refine Spc.enter Tryz.func209 rfl rfl rfl (fun w0 hw0 => ?_)
  refine CW.seq (CW.rg (RL.p rfl (RL.nil (NQ.seq (CW.seq (CW.ownNone (e := 3) 1 (CW.rg (RL.p rfl (RL.nil (NQ.seq (CW.seq (CW.seq (CW.rg ?_)))))))))))))
  refine RL.p rfl (RL.cmp rfl rfl rfl rfl rfl (eql_ptr Tryz.runUnderlying404 _) (RL.nil (NQ.seq (CW.condF rfl (rfl) (CW.skip (NQ.seq (CW.seq (CW.seq (CW.region (ef := [4]) (bk := [4]) (RL.p rfl (RL.p rfl (RL.fieldAddr fa_554_0 rfl rfl rfl rfl (RL.loadq Tryz.isAgg551 rfl rfl rfl rfl ?_)))))))))))))
  refine RL.range Tryz.runUnderlying551 rfl rfl rfl rfl rfl rfl (by repeat (first | exact Pick.nil | apply Pick.take | apply Pick.leave)) (fun it => ?_)
  refine RL.nil (NQ.seq (CW.ok [2, 3, 12] rfl (CW.block ?_)))
  refine CW.loop (γ := List (Value × Value) × List Int × Option Nat × Nat × Nat) (fun g => (ints g.2.1 ++ g.1.map (·.1)).Perm (ints zs) ∧ g.2.1.length = g.2.2.2.2) (fun g => [(3, slO g.2.2.1 g.2.2.2.2 g.2.2.2.1), (12, .pointer (some ⟨it, 0, none⟩))]) (fun _ => [])
    (fun g => [mapIt m1 it goodI c g.1, own g.2.2.1 g.2.2.2.1 3 1 g.2.2.2.2 (ints g.2.1), ringI r m1 m2]) (fun g => g.1.length) (c, [], none, 0, 0) ⟨by rw [hc]; exact List.Perm.refl _, rfl⟩ (.cons rfl (.cons rfl .nil)) (fun w h => h.rea (fun _ h => h) (by repeat (first | exact Rea.nil | (apply Rea.cons; (solve | (repeat (first | exact Del.here | apply Del.there))))))) ?_
  rintro ⟨left, acc, ob, cp, n⟩ ⟨hp, hn⟩
  dsimp only at hp hn ⊢
  have hlen : n + left.length = zs.length := by
    have := hp.length_eq
    simp [hn, ints] at this; exact this
  refine CW.fact (p := ∀ p ∈ left, goodI p.1) (fun w hC => fun p hp => ((mapIt_facts (hC.s.h _ (List.Mem.head _))).2.2 p hp).2) (fun hgd => ?_)
  refine CW.seq (CW.region (ef := [0]) (bk := [0]) ?_)
  refine RL.nextC rfl rfl rfl rfl rfl rfl (.take (Pick.none _)) (fun hl => ?_) (fun q p hq => ?_)
  · subst hl
    have hn2 : n = zs.length := by simpa using hlen
    subst hn2
    refine RL.p rfl (RL.nil (NQ.seq (CW.seq (CW.condF rfl ((by simp)) ?_))))
    refine CW.exit (XQ.seq (XQ.seq (XQ.hit (NQ.seq (CW.seq (CW.unrange (CW.region (ef := [1]) (bk := [1]) (RL.p rfl (RL.callq (sortI_o ob cp zs.length acc hn (by omega)) Tryz.call306 rfl rfl rfl rfl rfl (.inr rfl) ?_)))))))))
    rintro _ _ _ ⟨rfl, rfl, rfl⟩
    refine RL.nil (NQ.seq (CW.seq (CW.rg (RL.p rfl (RL.p rfl (RL.nil (NQ.seq (CW.ok [2] rfl (CW.ret ?_)))))))))
    have hs : sortL acc = sortL zs := sortL_perm (ints_perm (by simpa using hp))
    rw [show (acc.mergeSort fun x y => decide (x ≤ y)) = sortL zs from hs]
    exact RQ.post (res1 rfl rfl) (.keep (.keep (.keep .nil))) ⟨ob, cp, rfl, rfl, rfl⟩
  ·
    obtain ⟨s, hs⟩ := hgd p (List.mem_of_getElem? hq)
    obtain ⟨pk, pv⟩ := p
    dsimp only at hs
    subst hs
    refine RL.p rfl (RL.nil (NQ.seq (CW.seq (CW.condT rfl ((by simp)) ?_))))
    refine CW.skip (NQ.seq (CW.block (CW.seq (CW.rg (RL.entry rfl rfl rfl rfl (List.Mem.head _) (RL.p rfl (RL.p rfl (RL.nil (NQ.seq (CW.region (ef := [2, 3]) (bk := [3]) (RL.p rfl (RL.p rfl (RL.buildSlice [_] Tryz.runUnderlying237 Tryz.sizeOf3 Tryz.zeroValue3 rfl rfl (by decide) (by decide) rfl rfl rfl rfl rfl rfl ?_)))))))))))))
    intro b1
    refine RL.appendq el_237 rfl rfl rfl rfl rfl rfl rfl ?_
    intro ob1 cap1 ho1
    refine RL.p rfl (RL.nil (NQ.block ?_))
    refine NQ.round (g := (left, acc, ob, cp, n)) (left.eraseIdx q, acc ++ [s], ob1, cap1, n + 1) ⟨?_, by simp [hn]⟩ (by show (left.eraseIdx q).length < left.length; rw [List.length_eraseIdx_of_lt (List.getElem?_eq_some_iff.1 hq).1]; have := (List.getElem?_eq_some_iff.1 hq).1; omega) (.cons rfl (.cons rfl .nil)) (fun w h => (h.rea (H' := [mapCt m1 it goodI c (left.eraseIdx q) (.int .i64 s, pv), own ob1 cap1 3 1 (n + 1) (ints (acc ++ [s])), ringI r m1 m2]) (fun _ h => h) (by rw [show ints (acc ++ [s]) = ints acc ++ [.int .i64 s] by simp [ints]]; exact (by repeat (first | exact Rea.nil | (apply Rea.cons; (solve | (repeat (first | exact Del.here | apply Del.there)))))))).uncur)
    refine List.Perm.trans ?_ hp
    have h1 : ((left.map (·.1))).Perm (Value.int .i64 s :: (left.eraseIdx q).map (·.1)) := by
      have := perm_erase hq
      exact (this.map (·.1))
    show (ints (acc ++ [s]) ++ (left.eraseIdx q).map (·.1)).Perm (ints acc ++ left.map (·.1))
    rw [show ints (acc ++ [s]) = ints acc ++ [.int .i64 s] by simp [ints], List.append_assoc]
    exact List.Perm.append_left _ h1.symm
end Go.Proofs.YthgjgeapfndeeaaGreatDoor
