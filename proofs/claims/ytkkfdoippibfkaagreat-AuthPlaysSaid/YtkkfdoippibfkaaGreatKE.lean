import Derived.Test.YtkkfdoippibfkaaGreatKD
import Derived.Test.YtkkfdoippibfkaaGreatPE
import Derived.Shelf.SortM.Plain
import Derived.Shelf.SortM.SortNone
import Derived.Ground.SlgmProg
import Derived.Test.YtkkfdoippibfkaaGreatAH
namespace Go.Proofs.YtkkfdoippibfkaaGreat
open Go.PK
open Go.Shelf

def Tryz.sortI_ren : Go.Shelf.Ren := ⟨fun | 5 => 100 | 8 => 109 | 7 => 108 | 19 => 127 | 20 => 128 | 10 => 118 | 11 => 119 | 12 => 120 | 13 => 121 | 14 => 122 | 15 => 123 | 16 => 124 | 17 => 125 | 18 => 126 | 30 => 133 | 31 => 134 | 32 => 135 | 33 => 136 | 34 => 137 | 35 => 138 | 40 => 139 | n => n, fun | 23 => 41 | 25 => 3 | 3 => 3 | 32 => 147 | 22 => 41 | 0 => 0 | 44 => 32 | 46 => 33 | 4 => 4 | 36 => 190 | 35 => 189 | 41 => 195 | 5 => 5 | 9 => 9 | 53 => 200 | 57 => 204 | 63 => 206 | 64 => 207 | n => n, fun | n => n⟩
theorem Tryz.sortI : Go.Proofs.SlLaysM.n5 Tryz.prog Tryz.sortI_ren := {
  mixed := by kernel_rfl
  f5 := ⟨Tryz.f100.name, by decide, Tryz.func100.trans (congrArg some (by kernel_rfl))⟩
  f7 := ⟨Tryz.f108.name, by decide, Tryz.func108.trans (congrArg some (by kernel_rfl))⟩
  f8 := Tryz.func109.trans (congrArg some (by kernel_rfl))
  f10 := ⟨Tryz.f118.name, by decide, Tryz.func118.trans (congrArg some (by kernel_rfl))⟩
  f11 := ⟨Tryz.f119.name, by decide, Tryz.func119.trans (congrArg some (by kernel_rfl))⟩
  f12 := ⟨Tryz.f120.name, by decide, Tryz.func120.trans (congrArg some (by kernel_rfl))⟩
  f13 := ⟨Tryz.f121.name, by decide, Tryz.func121.trans (congrArg some (by kernel_rfl))⟩
  f14 := ⟨Tryz.f122.name, by decide, Tryz.func122.trans (congrArg some (by kernel_rfl))⟩
  f15 := ⟨Tryz.f123.name, by decide, Tryz.func123.trans (congrArg some (by kernel_rfl))⟩
  f16 := ⟨Tryz.f124.name, by decide, Tryz.func124.trans (congrArg some (by kernel_rfl))⟩
  f17 := ⟨Tryz.f125.name, by decide, Tryz.func125.trans (congrArg some (by kernel_rfl))⟩
  f18 := ⟨Tryz.f126.name, by decide, Tryz.func126.trans (congrArg some (by kernel_rfl))⟩
  f19 := Tryz.func127.trans (congrArg some (by kernel_rfl))
  f20 := Tryz.func128.trans (congrArg some (by kernel_rfl))
  f30 := ⟨Tryz.f133.name, by decide, Tryz.func133.trans (congrArg some (by kernel_rfl))⟩
  f31 := Tryz.func134.trans (congrArg some (by kernel_rfl))
  f32 := Tryz.func135.trans (congrArg some (by kernel_rfl))
  f33 := ⟨Tryz.f136.name, by decide, Tryz.func136.trans (congrArg some (by kernel_rfl))⟩
  f34 := ⟨Tryz.f137.name, by decide, Tryz.func137.trans (congrArg some (by kernel_rfl))⟩
  f35 := ⟨Tryz.f138.name, by decide, Tryz.func138.trans (congrArg some (by kernel_rfl))⟩
  f40 := ⟨Tryz.f139.name, by decide, Tryz.func139.trans (congrArg some (by kernel_rfl))⟩
  t0 := Tryz.underlying0
  a0 := Tryz.isAgg0
  z0 := Tryz.sizeOf0
  v0 := Tryz.zeroValue0
  t3 := Tryz.underlying3
  a3 := Tryz.isAgg3
  z3 := Tryz.sizeOf3
  v3 := Tryz.zeroValue3
  t4 := Tryz.underlying4
  a4 := Tryz.isAgg4
  z4 := Tryz.sizeOf4
  v4 := Tryz.zeroValue4
  t5 := Tryz.underlying5
  a5 := Tryz.isAgg5
  z5 := Tryz.sizeOf5
  v5 := Tryz.zeroValue5
  t9 := Tryz.underlying9
  a9 := Tryz.isAgg9
  z9 := Tryz.sizeOf9
  v9 := Tryz.zeroValue9
  t22 := Tryz.underlying41
  a22 := Tryz.isAgg41
  z22 := Tryz.sizeOf41
  v22 := Tryz.zeroValue41
  t23 := Tryz.underlying41
  a23 := Tryz.isAgg41
  z23 := Tryz.sizeOf41
  v23 := Tryz.zeroValue41
  t25 := Tryz.underlying3
  a25 := Tryz.isAgg3
  z25 := Tryz.sizeOf3
  v25 := Tryz.zeroValue3
  t32 := Tryz.underlying147
  a32 := Tryz.isAgg147
  z32 := Tryz.sizeOf147
  v32 := Tryz.zeroValue147
  t35 := Tryz.underlying189
  a35 := Tryz.isAgg189
  z35 := Tryz.sizeOf189
  v35 := Tryz.zeroValue189
  t36 := Tryz.underlying190
  a36 := Tryz.isAgg190
  z36 := Tryz.sizeOf190
  v36 := Tryz.zeroValue190
  t41 := Tryz.underlying195
  a41 := Tryz.isAgg195
  z41 := Tryz.sizeOf195
  v41 := Tryz.zeroValue195
  t44 := Tryz.underlying32
  a44 := Tryz.isAgg32
  z44 := Tryz.sizeOf32
  v44 := Tryz.zeroValue32
  t46 := Tryz.underlying33
  a46 := Tryz.isAgg33
  z46 := Tryz.sizeOf33
  v46 := Tryz.zeroValue33
  t53 := Tryz.underlying200
  a53 := Tryz.isAgg200
  z53 := Tryz.sizeOf200
  v53 := Tryz.zeroValue200
  t57 := Tryz.underlying204
  a57 := Tryz.isAgg204
  z57 := Tryz.sizeOf204
  v57 := Tryz.zeroValue204
  t63 := Tryz.underlying206
  a63 := Tryz.isAgg206
  z63 := Tryz.sizeOf206
  v63 := Tryz.zeroValue206
  t64 := Tryz.underlying207
  a64 := Tryz.isAgg207
  z64 := Tryz.sizeOf207
  v64 := Tryz.zeroValue207 }
theorem sortI_any (b cap n : Nat) (zs : List Int) (hn : zs.length = n) (hb : n < 4611686018427387904) : Spc Tryz.prog 100 #[slO (some b) n cap] [] [own (some b) cap 3 1 n (zs.map (Value.int .i64))] (fun v I' H' => v = .tuple #[] ∧ I' = [] ∧ H' = [own (some b) cap 3 1 n ((zs.mergeSort fun x y => decide (x ≤ y)).map (Value.int .i64))]) :=
  sort_ints (fun blk off cap zs w h1 h2 h3 => AnyM.slices_Sort_int Tryz.sortI blk off cap zs w h1 h2 h3) b cap n 3 zs hn hb
theorem sortI_o (ob : Option Nat) (cap n : Nat) (zs : List Int) (hn : zs.length = n) (hb : n < 4611686018427387904) : Spc Tryz.prog 100 #[slO ob n cap] [] [own ob cap 3 1 n (zs.map (Value.int .i64))] (fun v I' H' => v = .tuple #[] ∧ I' = [] ∧ H' = [own ob cap 3 1 n ((zs.mergeSort fun x y => decide (x ≤ y)).map (Value.int .i64))]) := by
  cases ob with
  | some b => exact sortI_any b cap n zs hn hb
  | none =>
    intro w hw
    have hA := hw.h _ (List.Mem.head _)
    have h0 : n = 0 := hA.2.1
    subst h0
    obtain rfl : zs = [] := List.length_eq_zero_iff.1 hn
    refine (AnyM.slices_Sort_int_none Tryz.sortI none cap w).mono ?_
    rintro e' w' ⟨rfl, rfl⟩
    exact ⟨_, [], _, rfl, ⟨rfl, rfl, rfl⟩, Keeps.refl _ _, ⟨by simp, fun x hx => by rw [List.mem_singleton.1 hx]; simpa using hA, by simp [own], by simp⟩, fun c hc => .inl hc, by simp⟩
def unint : Value → Int
  | .int _ n => n
  | _ => 0
theorem ints_back (l : List Int) : (ints l).map unint = l := by simp [ints, Function.comp_def, unint]
theorem ints_perm {a b : List Int} (h : (ints a).Perm (ints b)) : a.Perm b := by
  have := h.map unint
  rwa [ints_back, ints_back] at this
abbrev sortL (l : List Int) : List Int := l.mergeSort fun x y => decide (x ≤ y)
theorem sortL_perm {a b : List Int} (h : a.Perm b) : sortL a = sortL b := by
  have h1 : (sortL a).Perm (sortL b) := (List.mergeSort_perm a _).trans (h.trans (List.mergeSort_perm b _).symm)
  have p : ∀ l : List Int, (sortL l).Pairwise (fun x y => x ≤ y) := fun l => by
    have := List.pairwise_mergeSort (le := fun x y : Int => decide (x ≤ y)) (fun a b c h1 h2 => by simp at *; omega) (fun a b => by simp; omega) l
    exact this.imp (fun h => by simpa using h)
  exact h1.eq_of_pairwise (fun x y _ _ h1 h2 => Int.le_antisymm h1 h2) (p a) (p b)
def srcs (T : List One) : List Int := T.map fun o => (o.s : Int)
theorem c1_keys (T : List One) : (c1 T).map (·.1) = ints (srcs T) := by simp [c1, ints, srcs, Function.comp_def]
def SrcR (r m1 m2 : Nat) (T : List One) (c : List (Value × Value)) : Value → List It → List It → Prop := fun v I' H' => ∃ ob cp, v = slO ob T.length cp ∧ I' = [] ∧ H' = [allI (RingL r m1 m2 T c), own ob cp 3 1 T.length (ints (sortL (srcs T)))]
theorem perm_erase {α : Type} : ∀ {l : List α} {q : Nat} {p : α}, l[q]? = some p → l.Perm (p :: l.eraseIdx q)
  | a :: l, 0, p, h => by
    obtain rfl : a = p := by simpa using h
    simp
  | a :: l, q + 1, p, h => by
    have := perm_erase (l := l) (q := q) (p := p) (by simpa using h)
    rw [List.eraseIdx_cons_succ]
    exact (this.cons a).trans (List.Perm.swap _ _ _)
theorem RQ.ringCloseB {Q : Exit → Act → World → Prop} {N : Nat} {E : Env} {w0 : World} {S : List Nat} {I H B : List It} {r m1 m2 : Nat} {T : List One} {c : List (Value × Value)}
    (hr : Rea H (allI (T.map oneI) :: ringI r m1 m2 :: mapI m2 goodP c :: mapI m1 goodI (c1 T) :: B)) (h : RQ Q N E w0 S I (allI (RingL r m1 m2 T c) :: B)) : RQ Q N E w0 S I H := fun a w ha hw => by
  have h1 := (hw.rea (fun _ h => h) hr).unpack
  have hp : (T.map oneI ++ (ringI r m1 m2 :: mapI m2 goodP c :: mapI m1 goodI (c1 T) :: B)).Perm (RingL r m1 m2 T c ++ B) := by
    show (T.map oneI ++ ([ringI r m1 m2, mapI m2 goodP c, mapI m1 goodI (c1 T)] ++ B)).Perm _
    rw [← List.append_assoc]
    refine List.Perm.append_right B ?_
    refine List.perm_append_comm.trans ?_
    exact (List.Perm.swap _ _ _).cons _
  exact RQ.pack h a w ha (h1.perm hp)
theorem sources_any (r m1 m2 : Nat) (T : List One) (c : List (Value × Value)) (hl : T.length ≤ 1000) : Spc Tryz.prog 77 #[.pointer (some ⟨r, 0, none⟩)] [] [allI (RingL r m1 m2 T c)] (SrcR r m1 m2 T c) := by
  refine Spc.enter Tryz.func77 rfl rfl rfl (fun w0 hw0 => ?_)
  refine CW.seq ?_
  refine CW.region (ef := []) (bk := []) ?_
  refine RL.assign rfl rfl rfl rfl ?_
  refine RL.nil ?_
  refine NQ.seq ?_
  refine CW.seq ?_
  refine CW.ringOpen0 ?_
  refine CW.ownNone (e := 3) 1 ?_
  refine CW.region (ef := []) (bk := []) ?_
  refine RL.assign rfl rfl rfl rfl ?_
  refine RL.nil ?_
  refine NQ.seq ?_
  refine CW.seq ?_
  refine CW.seq ?_
  refine CW.region (ef := []) (bk := []) ?_
  refine RL.move rfl rfl rfl rfl ?_
  refine RL.cmp rfl rfl rfl rfl rfl (eql_ptr Tryz.runUnderlying69 _) ?_
  refine RL.nil ?_
  refine NQ.seq ?_
  refine CW.condF rfl (rfl) ?_
  refine CW.skip ?_
  refine NQ.seq ?_
  refine CW.seq ?_
  refine CW.seq ?_
  refine CW.region (ef := [4]) (bk := [4]) ?_
  refine RL.move rfl rfl rfl rfl ?_
  refine RL.nilCheck rfl rfl rfl rfl ?_
  refine RL.fieldAddr fa_126_0 rfl rfl rfl rfl ?_
  refine RL.loadq Tryz.isAgg123 rfl rfl rfl rfl ?_
  refine RL.range Tryz.runUnderlying123 rfl rfl rfl rfl rfl rfl (by repeat (first | exact Pick.nil | apply Pick.take | apply Pick.leave)) (fun it => ?_)
  refine RL.nil ?_
  refine NQ.seq ?_
  refine CW.only (.cons (k := 2) rfl (.cons (k := 3) rfl (.cons (k := 12) rfl .nil))) ?_
  refine CW.block ?_
  refine CW.loop (γ := List (Value × Value) × List Int × Option Nat × Nat × Nat) (fun g => (ints g.2.1 ++ g.1.map (·.1)).Perm (ints (srcs T)) ∧ g.2.1.length = g.2.2.2.2) (fun g => [(3, slO g.2.2.1 g.2.2.2.2 g.2.2.2.1), (12, .pointer (some ⟨it, 0, none⟩))]) (fun _ => [])
    (fun g => [mapIt m1 it goodI (c1 T) g.1, own g.2.2.1 g.2.2.2.1 3 1 g.2.2.2.2 (ints g.2.1), allI (T.map oneI), ringI r m1 m2, mapI m2 goodP c]) (fun g => g.1.length) (c1 T, [], none, 0, 0) ⟨by rw [c1_keys]; exact List.Perm.refl _, rfl⟩ (.cons rfl (.cons rfl .nil)) (fun w h => h.rea (fun _ h => h) (by repeat (first | exact Rea.nil | (apply Rea.cons; (solve | (repeat (first | exact Del.here | apply Del.there))))))) ?_
  rintro ⟨left, acc, ob, cp, n⟩ ⟨hp, hn⟩
  dsimp only at hp hn ⊢
  have hlen : n + left.length = T.length := by
    have := hp.length_eq
    simp [srcs, hn] at this; exact this
  refine CW.fact (p := ∀ p ∈ left, goodI p.1) (fun w hC => fun p hp => ((mapIt_facts (hC.s.h _ (List.Mem.head _))).2.2 p hp).2) (fun hgd => ?_)
  refine CW.seq ?_
  refine CW.region (ef := [0]) (bk := [0]) ?_
  refine RL.nextC rfl rfl rfl rfl rfl rfl (.take (Pick.none _)) (fun hl => ?_) (fun q p hq => ?_)
  · subst hl
    have hn2 : n = T.length := by simpa using hlen
    subst hn2
    refine RL.extract rfl rfl rfl rfl rfl ?_
    refine RL.nil ?_
    refine NQ.seq ?_
    refine CW.seq ?_
    refine CW.condF rfl ((by simp)) ?_
    refine CW.exit ?_
    refine XQ.seq ?_
    refine XQ.seq ?_
    refine XQ.hit ?_
    refine NQ.seq ?_
    refine CW.seq ?_
    refine CW.unrange ?_
    refine CW.region (ef := [1]) (bk := [1]) ?_
    refine RL.move rfl rfl rfl rfl ?_
    refine RL.callq (sortI_o ob cp T.length acc hn (by omega)) Tryz.call100 rfl rfl rfl rfl rfl (.inr rfl) ?_
    rintro _ _ _ ⟨rfl, rfl, rfl⟩
    refine RL.nil ?_
    refine NQ.seq ?_
    refine CW.seq ?_
    refine CW.region (ef := []) (bk := []) ?_
    refine RL.move rfl rfl rfl rfl ?_
    refine RL.assign rfl rfl rfl rfl ?_
    refine RL.nil ?_
    refine NQ.seq ?_
    refine CW.only (.cons (k := 2) rfl .nil) ?_
    refine CW.ret ?_
    have hs : sortL acc = sortL (srcs T) := sortL_perm (ints_perm (by simpa using hp))
    rw [show (acc.mergeSort fun x y => decide (x ≤ y)) = sortL (srcs T) from hs]
    refine RQ.ringCloseB (T := T) (B := [own ob cp 3 1 T.length (ints (sortL (srcs T)))]) (by repeat (first | exact Rea.nil | (apply Rea.cons; (solve | (repeat (first | exact Del.here | apply Del.there)))))) ?_
    exact RQ.post (res1 rfl rfl) (.keep (.keep .nil)) ⟨ob, cp, rfl, rfl, rfl⟩
  ·
    obtain ⟨s, hs⟩ := hgd p (List.mem_of_getElem? hq)
    obtain ⟨pk, pv⟩ := p
    dsimp only at hs
    subst hs
    refine RL.extract rfl rfl rfl rfl rfl ?_
    refine RL.nil ?_
    refine NQ.seq ?_
    refine CW.seq ?_
    refine CW.condT rfl ((by simp)) ?_
    refine CW.skip ?_
    refine NQ.seq ?_
    refine CW.block ?_
    refine CW.seq ?_
    refine CW.region (ef := []) (bk := []) ?_
    refine RL.entry rfl rfl rfl rfl (List.Mem.head _) ?_
    refine RL.extract rfl rfl rfl rfl rfl ?_
    refine RL.assign rfl rfl rfl rfl ?_
    refine RL.nil ?_
    refine NQ.seq ?_
    refine CW.region (ef := [2, 3]) (bk := [3]) ?_
    refine RL.move rfl rfl rfl rfl ?_
    refine RL.move rfl rfl rfl rfl ?_
    refine RL.buildSlice [_] Tryz.runUnderlying41 Tryz.sizeOf3 Tryz.zeroValue3 rfl rfl (by decide) (by decide) rfl rfl rfl rfl rfl rfl ?_
    intro b1
    refine RL.appendq el_41 rfl rfl rfl rfl rfl rfl rfl ?_ (hs := (by first | (exact Src.cel (by (solve | (repeat (first | exact List.Mem.head _ | apply List.Mem.tail)))) (by first | rfl | assumption | (simp only [List.length_map]; assumption) | (simp only [List.length_map, List.length_replicate]; done) | (simp; done))) | (exact Src.ownS (by (solve | (repeat (first | exact List.Mem.head _ | apply List.Mem.tail))))) | (exact Src.own (by (solve | (repeat (first | exact List.Mem.head _ | apply List.Mem.tail))))) | (exact Src.sls (by (solve | (repeat (first | exact List.Mem.head _ | apply List.Mem.tail))))) | (exact Src.celI (by (solve | (repeat (first | exact List.Mem.head _ | apply List.Mem.tail)))) (by first | rfl | assumption | (simp only [List.length_map]; assumption) | (simp only [List.length_map, List.length_replicate]; done) | (simp; done)))))
    intro ob1 cap1 ho1
    refine RL.assign rfl rfl rfl rfl ?_
    refine RL.nil ?_
    refine NQ.block ?_
    refine NQ.round (g := (left, acc, ob, cp, n)) (left.eraseIdx q, acc ++ [s], ob1, cap1, n + 1) ⟨?_, by simp [hn]⟩ (by show (left.eraseIdx q).length < left.length; rw [List.length_eraseIdx_of_lt (List.getElem?_eq_some_iff.1 hq).1]; have := (List.getElem?_eq_some_iff.1 hq).1; omega) (.cons rfl (.cons rfl .nil)) (fun w h => (h.rea (H' := [mapCt m1 it goodI (c1 T) (left.eraseIdx q) (.int .i64 s, pv), own ob1 cap1 3 1 (n + 1) (ints (acc ++ [s])), allI (T.map oneI), ringI r m1 m2, mapI m2 goodP c]) (fun _ h => h) (by rw [show ints (acc ++ [s]) = ints acc ++ [.int .i64 s] by simp [ints]]; exact (by repeat (first | exact Rea.nil | (apply Rea.cons; (solve | (repeat (first | exact Del.here | apply Del.there)))))))).uncur)
    refine List.Perm.trans ?_ hp
    have h1 : ((left.map (·.1))).Perm (Value.int .i64 s :: (left.eraseIdx q).map (·.1)) := by
      have := perm_erase hq
      exact (this.map (·.1))
    show (ints (acc ++ [s]) ++ (left.eraseIdx q).map (·.1)).Perm (ints acc ++ left.map (·.1))
    rw [show ints (acc ++ [s]) = ints acc ++ [.int .i64 s] by simp [ints], List.append_assoc]
    exact List.Perm.append_left _ h1.symm
end Go.Proofs.YtkkfdoippibfkaaGreat

namespace Go.Proofs.YtkkfdoippibfkaaGreat
open Go.PK

def rgoesB (o : One) (e : Nat) (t : Int) : Bool := e == o.e || (e + 1 == o.e && decide (0 < e) && decide (t ≤ o.g))
def rkeyM (R : List One) (s : Int) (e : Nat) (t : Int) : List B8 × Int := if tickB t = true ∧ mayB s = true then match atO R s with
  | none => (zeros, 5)
  | some o => if rgoesB o e t = true then (deriveK o.k epochL e, 0) else (zeros, 160) else (zeros, 2)
theorem Alike.key {T R : List One} (h : Alike T R) (s : Int) (e : Nat) (t : Int) : keyM T s e t = rkeyM R s e t := by
  rw [keyM, rkeyM]
  by_cases hm : tickB t = true ∧ mayB s = true
  · rw [if_pos hm, if_pos hm]
    cases ho : atO T s with
    | none => rw [h.non.2 ho]
    | some o =>
      obtain ⟨p, hp, hk, he, hg⟩ := h.som ho
      rw [hp]
      dsimp only
      have h1 := h.t.e1 o (atO_mem ho).1
      have h2 := h.g1 o (atO_mem ho).1
      have h3 := h.t.g o (atO_mem ho).1
      have ht : 0 ≤ t := by have := hm.1; simp [tickB] at this; omega
      have hb : goesB o e t = rgoesB p e t := by
        rw [Bool.eq_iff_iff]
        simp only [goesB, rgoesB, hasE, he, hg, Bool.and_eq_true, Bool.or_eq_true, Bool.not_eq_true', beq_iff_eq, decide_eq_true_eq, beq_eq_false_iff_ne]
        omega
      rw [hb, hk]
  · rw [if_neg hm, if_neg hm]
theorem rkeyM_len (R : List One) (s : Int) (e : Nat) (t : Int) : (rkeyM R s e t).1.length = 32 := by
  unfold rkeyM
  split
  · split
    · rfl
    · split
      · exact derive_len _ _ _
      · rfl
  · rfl
theorem ones_of : ∀ {l : List Value}, (∀ u ∈ l, u.oneCell' = true) → ones l = true
  | [], _ => rfl
  | a :: l, h => by
    have h1 := h a (by simp)
    have h2 := ones_of (l := l) (fun u hu => h u (by simp [hu]))
    simp [ones, h1, h2]
theorem rc_k (o : One) : ∀ (j : Nat) (u : Value), (bytes o.k)[j]? = some u → o.rc[0 + 1 + j]? = some u := fun j u hj => by
  have hlt := (List.getElem?_eq_some_iff.1 hj).1
  rw [show 0 + 1 + j = j + 1 by omega, One.rc, List.getElem?_cons_succ, List.getElem?_append_left hlt]; exact hj
theorem rc_rdsN {I : List It} {R : List One} {ba cp i : Nat} {o : One} {e : TypeId} (h : ROk R) (hm : own (some ba) cp e 35 R.length (rcs R) ∈ I) (hi : R[i]? = some o) : RdsN I ⟨ba, 0 + i * 35, none⟩ 35 o.rc :=
  ⟨fun _ w hw j u hj => by
    have hlt : j < 35 := by have := (List.getElem?_eq_some_iff.1 hj).1; rwa [rc_len (h o (List.mem_of_getElem? hi))] at this
    have this : w.cell? ((⟨ba, 0, none⟩ : Addr).add (i * 35 + j)) = some u := (own_sls (hw.i _ hm)).2.2 (i * 35 + j) u (by have := rc_at h hi j u hj; rwa [Nat.zero_add] at this)
    rw [add_none] at this ⊢
    rw [Nat.add_assoc]; exact this, rc_len (h o (List.mem_of_getElem? hi))⟩
theorem rkey_any (y : Nat) (R : List One) (ob : Option Nat) (cp : Nat) (s : Int) (e : Nat) (t : Int) (hR : ROk R) (he1 : ∀ o ∈ R, 1 ≤ o.e) (he2 : ∀ o ∈ R, o.e < 4294967296) (he : e < 4294967296) (hl : R.length ≤ 1000000) :
    Spc Tryz.prog 82 #[.pointer (some ⟨y, 0, none⟩), .int .i64 s, .int .u32 (e : Int), .int .i64 t] (RefK y R ob cp) [] (Is (.tuple #[.agg (bytes (rkeyM R s e t).1).toArray, .int .i64 (rkeyM R s e t).2])) := by
  refine Spc.enter Tryz.func82 rfl rfl rfl (fun w0 hw0 => ?_)
  refine CW.seq ?_
  refine CW.region (ef := [0]) (bk := []) ?_
  refine RL.alloc (cs := List.replicate 32 (U8 0#8)) Tryz.zeroValue56 rfl rfl rfl rfl rfl ?_
  intro b1
  refine RL.assign rfl rfl rfl rfl ?_
  refine RL.nil ?_
  refine NQ.seq ?_
  refine CW.seq ?_
  refine CW.seq ?_
  refine CW.region (ef := []) (bk := []) ?_
  refine RL.move rfl rfl rfl rfl ?_
  refine RL.callvq (rmay_any s) Tryz.call55 rfl rfl rfl rfl ?_
  refine RL.not rfl rfl rfl rfl ?_
  refine RL.move rfl rfl rfl rfl ?_
  apply RL.orB (d := 15) (dp := 19) (l' := (Sq.of [])) rfl (.cons (k := 0) rfl (.cons (k := 1) rfl (.cons (k := 2) rfl (.cons (k := 3) rfl (.cons (k := 8) rfl (.cons (k := 9) rfl .nil))))))
  ·
    intro hb4 K4
    refine RL.move rfl rfl rfl rfl ?_
    refine RL.callvq (rktick_any t) Tryz.call56 rfl rfl rfl rfl ?_
    refine RL.not rfl rfl rfl rfl ?_
    refine RL.pickF rfl rfl rfl rfl rfl ?_
    exact K4 _ (.cons rfl (.cons (k := 0) rfl (.cons (k := 1) rfl (.cons (k := 2) rfl (.cons (k := 3) rfl (.cons (k := 8) rfl (.cons (k := 9) rfl .nil)))))))
  ·
    intro hb4 K4
    refine RL.skip rfl rfl rfl rfl ?_
    refine RL.skip rfl rfl rfl rfl ?_
    refine RL.skip rfl rfl rfl rfl ?_
    refine RL.pickT rfl rfl rfl rfl rfl ?_
    exact K4 _ (.cons rfl (.cons (k := 0) rfl (.cons (k := 1) rfl (.cons (k := 2) rfl (.cons (k := 3) rfl (.cons (k := 8) rfl (.cons (k := 9) rfl .nil)))))))
  refine RL.nil ?_
  refine NQ.seq ?_
  refine CW.cond rfl (fun hm => ?_) (fun hm => ?_)
  ·
    refine CW.seq ?_
    refine CW.region (ef := [1]) (bk := [1]) ?_
    refine RL.buildA (List.replicate 32 (U8 0#8)) Tryz.zeroValue56 Tryz.runUnderlying56 Tryz.sizeOf5 rfl rfl rfl rfl rfl ?_
    refine RL.storeW Tryz.sizeOf56 rfl rfl rfl rfl rfl rfl rfl (by first | rfl | exact ones_map one8 _ | exact ones_map (fun _ => rfl) _) (by repeat (first | exact Upd.here | apply Upd.there)) (by first | rfl | assumption | (simp only [List.length_map]; assumption) | (simp only [List.length_map, List.length_replicate]; done) | (simp; done)) (by first | rfl | assumption | (simp only [List.length_map]; assumption) | (simp only [List.length_map, List.length_replicate]; done) | (simp; done)) ?_
    refine RL.assign rfl rfl rfl rfl ?_
    refine RL.nil ?_
    refine NQ.seq ?_
    refine CW.ret ?_
    refine RQ.seq ?_
    have hm : ¬ (tickB t = true ∧ mayB s = true) := by
      rintro ⟨e1, e2⟩; simp [e1, e2] at hm
    exact RQ.post (resWT rfl rfl rfl Tryz.isAgg56 Tryz.sizeOf56 (by repeat (first | exact List.Mem.head _ | apply List.Mem.tail)) rfl) (Split.none _) ⟨by rw [rkeyM, if_neg hm]; rfl, rfl, rfl⟩
  ·
    have hm : tickB t = true ∧ mayB s = true := by simp at hm; simp [hm]
    rcases atN_spec R s with ⟨h1, h2⟩ | ⟨i, o, h1, h2, h3⟩
    · have hat : atI R s = -1 := by rw [atI, h1]
      refine CW.skip ?_
      refine NQ.seq ?_
      refine CW.seq ?_
      refine CW.region (ef := []) (bk := []) ?_
      refine RL.move rfl rfl rfl rfl ?_
      refine RL.move rfl rfl rfl rfl ?_
      refine RL.callvq (rat_any y R ob cp s hR hl) Tryz.call53 rfl rfl rfl rfl ?_
      refine RL.assign rfl rfl rfl rfl ?_
      refine RL.nil ?_
      refine NQ.seq ?_
      refine CW.only (.cons (k := 0) rfl (.cons (k := 2) rfl (.cons (k := 3) rfl (.cons (k := 8) rfl (.cons (k := 10) rfl .nil))))) ?_
      refine CW.seq ?_
      refine CW.seq ?_
      rw [hat]
      refine CW.region (ef := []) (bk := []) ?_
      refine RL.move rfl rfl rfl rfl ?_
      refine RL.bin rfl rfl rfl rfl rfl rfl ?_
      refine RL.nil ?_
      refine NQ.seq ?_
      refine CW.condT rfl ((by simp)) ?_
      refine CW.seq ?_
      refine CW.region (ef := [1]) (bk := [1]) ?_
      refine RL.buildA (List.replicate 32 (U8 0#8)) Tryz.zeroValue56 Tryz.runUnderlying56 Tryz.sizeOf5 rfl rfl rfl rfl rfl ?_
      refine RL.storeW Tryz.sizeOf56 rfl rfl rfl rfl rfl rfl rfl (by first | rfl | exact ones_map one8 _ | exact ones_map (fun _ => rfl) _) (by repeat (first | exact Upd.here | apply Upd.there)) (by first | rfl | assumption | (simp only [List.length_map]; assumption) | (simp only [List.length_map, List.length_replicate]; done) | (simp; done)) (by first | rfl | assumption | (simp only [List.length_map]; assumption) | (simp only [List.length_map, List.length_replicate]; done) | (simp; done)) ?_
      refine RL.assign rfl rfl rfl rfl ?_
      refine RL.nil ?_
      refine NQ.seq ?_
      refine CW.ret ?_
      refine RQ.seq ?_
      exact RQ.post (resWT rfl rfl rfl Tryz.isAgg56 Tryz.sizeOf56 (by repeat (first | exact List.Mem.head _ | apply List.Mem.tail)) rfl) (Split.none _) ⟨by rw [rkeyM, if_pos hm, h2]; rfl, rfl, rfl⟩
    ·
      have hat : atI R s = (i : Int) := by rw [atI, h1]
      have hlt : i < R.length := (List.getElem?_eq_some_iff.1 h2).1
      have hmo := List.mem_of_getElem? h2
      have hk := hR o hmo
      have hrl := rc_len hk
      have hdl := derive_len o.k epochL e
      refine CW.fact (p := ob = none → R.length = 0) (fun w hC e => by
        have := own_sls (hC.s.i (own ob cp 131 35 R.length (rcs R)) (by repeat (first | exact List.Mem.head _ | apply List.Mem.tail)))
        exact sls_nil this (by rw [e]; rfl)) (fun hpa => ?_)
      refine CW.skip ?_
      refine NQ.seq ?_
      refine CW.seq ?_
      refine CW.region (ef := []) (bk := []) ?_
      refine RL.move rfl rfl rfl rfl ?_
      refine RL.move rfl rfl rfl rfl ?_
      refine RL.callvq (rat_any y R ob cp s hR hl) Tryz.call53 rfl rfl rfl rfl ?_
      refine RL.assign rfl rfl rfl rfl ?_
      refine RL.nil ?_
      refine NQ.seq ?_
      refine CW.only (.cons (k := 0) rfl (.cons (k := 2) rfl (.cons (k := 3) rfl (.cons (k := 8) rfl (.cons (k := 10) rfl .nil))))) ?_
      refine CW.seq ?_
      refine CW.seq ?_
      rw [hat]
      cases ob with
      | none => exact absurd (hpa rfl) (by omega)
      | some ba =>
      have q : RdsN (RefK y R (some ba) cp) ⟨ba, 0 + i * 35, none⟩ 35 o.rc := rc_rdsN hR (show own (some ba) cp 131 35 R.length (rcs R) ∈ RefK y R (some ba) cp from (by repeat (first | exact List.Mem.head _ | apply List.Mem.tail))) h2
      have hw : IntKind.u32.wrap ((o.e : Int) - 1) = ((o.e - 1 : Nat) : Int) := u32_back (k := 1) (he2 o hmo) (he1 o hmo)
      have h1e := he1 o hmo
      have g1 : o.rc[0 + 33]? = some (.int .u32 (o.e : Int)) := rc_e hk
      have g2 : o.rc[0 + 34]? = some (.int .i64 o.g) := rc_g hk
      refine CW.region (ef := []) (bk := []) ?_
      refine RL.move rfl rfl rfl rfl ?_
      refine RL.bin rfl rfl rfl rfl rfl rfl ?_
      refine RL.nil ?_
      refine NQ.seq ?_
      refine CW.condF rfl ((by simp)) ?_
      refine CW.skip ?_
      refine NQ.seq ?_
      refine CW.seq ?_
      refine CW.region (ef := [7, 8]) (bk := [8]) ?_
      refine RL.move rfl rfl rfl rfl ?_
      refine RL.nilCheck rfl rfl rfl rfl ?_
      refine RL.fieldAddr fa_83_0 rfl rfl rfl rfl ?_
      refine RL.loadq Tryz.isAgg81 rfl rfl rfl rfl ?_
      refine RL.move rfl rfl rfl rfl ?_
      refine RL.idxAt (j := i) Tryz.runUnderlying81 Tryz.sizeOf131 rfl rfl rfl rfl rfl rfl (hlt) ?_
      first | refine RL.loadM Tryz.isAgg131 Tryz.sizeOf131 rfl rfl rfl rfl (by assumption) ?_ | refine RL.loadA Tryz.isAgg131 Tryz.sizeOf131 rfl rfl rfl rfl (by first | assumption | (apply RdsI.rds; assumption)) (by first | rfl | assumption | (simp only [List.length_map]; assumption) | (simp only [List.length_map, List.length_replicate, hrl, hdl]; done) | (simp; done)) ?_ | refine RL.loadW Tryz.isAgg131 Tryz.sizeOf131 rfl rfl rfl rfl (by (solve | (repeat (first | exact List.Mem.head _ | apply List.Mem.tail)))) (by first | rfl | assumption | (simp only [List.length_map]; assumption) | (simp only [List.length_map, List.length_replicate, hrl, hdl]; done) | (simp; done)) ?_
      refine RL.alloc Tryz.zeroValue131 rfl rfl rfl rfl rfl ?_
      intro b2
      refine RL.storeW Tryz.sizeOf131 rfl rfl rfl rfl rfl rfl rfl (ones_of (ones_rc o)) (by repeat (first | exact Upd.here | apply Upd.there)) hrl rfl ?_
      refine RL.nil ?_
      refine NQ.seq ?_
      refine CW.only (.cons (k := 2) rfl (.cons (k := 3) rfl (.cons (k := 8) rfl (.cons (k := 11) rfl .nil)))) ?_
      refine CW.seq ?_
      refine CW.seq ?_
      refine CW.region (ef := []) (bk := []) ?_
      refine RL.move rfl rfl rfl rfl ?_
      refine RL.fieldAddr fa_131_2 rfl rfl rfl rfl ?_
      refine RL.loadq Tryz.isAgg32 rfl rfl rfl rfl ?_
      refine RL.bin rfl rfl rfl rfl rfl rfl ?_
      refine RL.move rfl rfl rfl rfl ?_
      apply RL.orB (d := 38) (dp := 54) (l' := (Sq.of [])) rfl (.cons (k := 2) rfl (.cons (k := 8) rfl (.cons (k := 11) rfl .nil)))
      ·
        intro hb5 K5
        refine RL.move rfl rfl rfl rfl ?_
        refine RL.fieldAddr fa_131_2 rfl rfl rfl rfl ?_
        refine RL.loadq Tryz.isAgg32 rfl rfl rfl rfl ?_
        refine RL.bin rfl rfl rfl rfl rfl rfl ?_
        refine RL.bin rfl rfl rfl rfl rfl rfl ?_
        refine RL.move rfl rfl rfl rfl ?_
        apply RL.andB (d := 44) (dp := 47) (l' := (Sq.of [14, 15, 16, 17, 18, 19, 20])) rfl (.cons (k := 2) rfl (.cons (k := 3) rfl (.cons (k := 8) rfl (.cons (k := 11) rfl (.cons (k := 38) rfl .nil)))))
        ·
          intro hb11 K11
          refine RL.move rfl rfl rfl rfl ?_
          refine RL.bin rfl rfl rfl rfl rfl rfl ?_
          refine RL.pickT rfl rfl rfl rfl rfl ?_
          exact K11 _ (.cons rfl (.cons (k := 2) rfl (.cons (k := 3) rfl (.cons (k := 8) rfl (.cons (k := 11) rfl (.cons (k := 38) rfl .nil))))))
        ·
          intro hb11 K11
          refine RL.skip rfl rfl rfl rfl ?_
          refine RL.skip rfl rfl rfl rfl ?_
          refine RL.pickF rfl rfl rfl rfl rfl ?_
          exact K11 _ (.cons rfl (.cons (k := 2) rfl (.cons (k := 3) rfl (.cons (k := 8) rfl (.cons (k := 11) rfl (.cons (k := 38) rfl .nil))))))
        refine RL.move rfl rfl rfl rfl ?_
        apply RL.andB (d := 48) (dp := 53) (l' := (Sq.of [20])) rfl (.cons (k := 2) rfl (.cons (k := 8) rfl (.cons (k := 11) rfl (.cons (k := 38) rfl .nil))))
        ·
          intro hb15 K15
          refine RL.move rfl rfl rfl rfl ?_
          refine RL.fieldAddr fa_131_3 rfl rfl rfl rfl ?_
          refine RL.loadq Tryz.isAgg3 rfl rfl rfl rfl ?_
          refine RL.bin rfl rfl rfl rfl rfl rfl ?_
          refine RL.pickT rfl rfl rfl rfl rfl ?_
          exact K15 _ (.cons rfl (.cons (k := 2) rfl (.cons (k := 8) rfl (.cons (k := 11) rfl (.cons (k := 38) rfl .nil)))))
        ·
          intro hb15 K15
          refine RL.skip rfl rfl rfl rfl ?_
          refine RL.skip rfl rfl rfl rfl ?_
          refine RL.skip rfl rfl rfl rfl ?_
          refine RL.skip rfl rfl rfl rfl ?_
          refine RL.pickF rfl rfl rfl rfl rfl ?_
          exact K15 _ (.cons rfl (.cons (k := 2) rfl (.cons (k := 8) rfl (.cons (k := 11) rfl (.cons (k := 38) rfl .nil)))))
        refine RL.pickF rfl rfl rfl rfl rfl ?_
        exact K5 _ (.cons rfl (.cons (k := 2) rfl (.cons (k := 8) rfl (.cons (k := 11) rfl .nil))))
      ·
        intro hb5 K5
        refine RL.skip rfl rfl rfl rfl ?_
        refine RL.skip rfl rfl rfl rfl ?_
        refine RL.skip rfl rfl rfl rfl ?_
        refine RL.skip rfl rfl rfl rfl ?_
        refine RL.skip rfl rfl rfl rfl ?_
        refine RL.skip rfl rfl rfl rfl ?_
        refine RL.skip rfl rfl rfl rfl ?_
        refine RL.skip rfl rfl rfl rfl ?_
        refine RL.skip rfl rfl rfl rfl ?_
        refine RL.skip rfl rfl rfl rfl ?_
        refine RL.skip rfl rfl rfl rfl ?_
        refine RL.skip rfl rfl rfl rfl ?_
        refine RL.skip rfl rfl rfl rfl ?_
        refine RL.skip rfl rfl rfl rfl ?_
        refine RL.skip rfl rfl rfl rfl ?_
        refine RL.pickT rfl rfl rfl rfl rfl ?_
        exact K5 _ (.cons rfl (.cons (k := 2) rfl (.cons (k := 8) rfl (.cons (k := 11) rfl .nil))))
      refine RL.nil ?_
      refine NQ.seq ?_
      rw [hw]
      refine CW.cond rfl (fun hg => ?_) (fun hg => ?_)
      ·
        refine CW.seq ?_
        refine CW.region (ef := [5]) (bk := [5]) ?_
        refine RL.fieldAddr fa_131_1 rfl rfl rfl rfl ?_
        have hg : rgoesB o e t = true := by simp [rgoesB] at hg ⊢; omega
        refine RL.loadA Tryz.isAgg56 Tryz.sizeOf56 rfl rfl rfl rfl (vs := bytes o.k) (Rds.cel (by repeat (first | exact List.Mem.head _ | apply List.Mem.tail)) (rc_k o)) (by rw [List.length_map, hk]) ?_
        refine RL.move rfl rfl rfl rfl ?_
        refine RL.conv Tryz.runUnderlying32 Tryz.runUnderlying33 rfl rfl rfl rfl ?_
        refine RL.callvq (rderive_w o.k hk epochL (by decide) e he) Tryz.call65 rfl rfl rfl rfl ?_
        refine RL.storeW Tryz.sizeOf56 rfl rfl rfl rfl rfl rfl rfl (by first | rfl | exact ones_map one8 _ | exact ones_map (fun _ => rfl) _) (by repeat (first | exact Upd.here | apply Upd.there)) (by first | rfl | assumption | (simp only [List.length_map]; assumption) | (simp only [List.length_map, List.length_replicate, hrl, hdl]; done) | (simp; done)) (by first | rfl | assumption | (simp only [List.length_map]; assumption) | (simp only [List.length_map, List.length_replicate, hrl, hdl]; done) | (simp; done)) ?_
        refine RL.assign rfl rfl rfl rfl ?_
        refine RL.nil ?_
        refine NQ.seq ?_
        refine CW.only (.cons (k := 8) rfl (.cons (k := 9) rfl .nil)) ?_
        refine CW.ret ?_
        refine RQ.seq ?_
        exact RQ.post (resWT rfl rfl rfl Tryz.isAgg56 Tryz.sizeOf56 (by repeat (first | exact List.Mem.head _ | apply List.Mem.tail)) (by first | rfl | assumption | (simp only [List.length_map]; assumption) | (simp only [List.length_map, List.length_replicate, hrl, hdl]; done) | (simp; done))) (Split.none _) ⟨by rw [rkeyM, if_pos hm, h3]; dsimp only; rw [if_pos hg], rfl, rfl⟩
      ·
        refine CW.skip ?_
        refine NQ.seq ?_
        refine CW.seq ?_
        refine CW.region (ef := [1]) (bk := [1]) ?_
        refine RL.buildA (List.replicate 32 (U8 0#8)) Tryz.zeroValue56 Tryz.runUnderlying56 Tryz.sizeOf5 rfl rfl rfl rfl rfl ?_
        refine RL.storeW Tryz.sizeOf56 rfl rfl rfl rfl rfl rfl rfl (by first | rfl | exact ones_map one8 _ | exact ones_map (fun _ => rfl) _) (by repeat (first | exact Upd.here | apply Upd.there)) (by first | rfl | assumption | (simp only [List.length_map]; assumption) | (simp only [List.length_map, List.length_replicate, hrl, hdl]; done) | (simp; done)) (by first | rfl | assumption | (simp only [List.length_map]; assumption) | (simp only [List.length_map, List.length_replicate, hrl, hdl]; done) | (simp; done)) ?_
        refine RL.assign rfl rfl rfl rfl ?_
        refine RL.nil ?_
        refine NQ.seq ?_
        refine CW.ret ?_
        have hg : ¬ rgoesB o e t = true := by simp [rgoesB] at hg ⊢; omega
        exact RQ.post (resWT rfl rfl rfl Tryz.isAgg56 Tryz.sizeOf56 (by repeat (first | exact List.Mem.head _ | apply List.Mem.tail)) rfl) (Split.none _) ⟨by rw [rkeyM, if_pos hm, h3]; dsimp only; rw [if_neg hg]; rfl, rfl, rfl⟩
def srcR (R : List One) : List Int := R.map fun o => (o.s : Int)
def RSrcR (y : Nat) (R : List One) : Value → List It → List It → Prop := fun v I' H' => ∃ ob cp, v = slO ob R.length cp ∧ I' = [] ∧ H' = [own ob cp 3 1 R.length (ints (srcR R))]
theorem rsources_any (y : Nat) (R : List One) (ob : Option Nat) (cp : Nat) (hR : ROk R) (hl : R.length ≤ 1000000) :
    Spc Tryz.prog 52 #[.pointer (some ⟨y, 0, none⟩)] (RefK y R ob cp) [] (RSrcR y R) := by
  refine Spc.enter Tryz.func52 rfl rfl rfl (fun w0 hw0 => ?_)
  refine CW.seq ?_
  refine CW.region (ef := []) (bk := []) ?_
  refine RL.assign rfl rfl rfl rfl ?_
  refine RL.nil ?_
  refine NQ.seq ?_
  refine CW.seq ?_
  refine CW.region (ef := [0]) (bk := []) ?_
  refine RL.buildOwn [] Tryz.runUnderlying41 Tryz.sizeOf3 Tryz.zeroValue3 rfl rfl (by decide) (by decide) rfl (by decide) rfl rfl rfl rfl rfl rfl ?_
  intro b1
  refine RL.assign rfl rfl rfl rfl ?_
  refine RL.nil ?_
  refine NQ.seq ?_
  refine CW.seq ?_
  refine CW.seq ?_
  refine CW.region (ef := []) (bk := []) ?_
  refine RL.assign rfl rfl rfl rfl ?_
  refine RL.nil ?_
  refine NQ.seq ?_
  refine CW.block ?_
  refine CW.loop (γ := Nat × Option Nat × Nat) (fun g => g.1 ≤ R.length) (fun g => [(0, .pointer (some ⟨y, 0, none⟩)), (3, slO g.2.1 g.1 g.2.2), (4, .int .i64 (g.1 : Int))]) (fun _ => RefK y R ob cp) (fun g => [own g.2.1 g.2.2 3 1 g.1 (ints (srcR (R.take g.1)))]) (fun g => R.length - g.1) (0, some b1, 0) (by simp) (.cons rfl (.cons rfl (.cons rfl .nil))) (fun _ h => h) ?_
  rintro ⟨i, o2, c2⟩ hi
  dsimp only at hi ⊢
  refine CW.fact (p := ob = none → R.length = 0) (fun w hC e => by
    have := own_sls (hC.s.i (own ob cp 131 35 R.length (rcs R)) (by repeat (first | exact List.Mem.head _ | apply List.Mem.tail)))
    exact sls_nil this (by rw [e]; rfl)) (fun hpa => ?_)
  refine CW.seq ?_
  refine CW.seq ?_
  refine CW.region (ef := []) (bk := []) ?_
  refine RL.move rfl rfl rfl rfl ?_
  refine RL.move rfl rfl rfl rfl ?_
  refine RL.nilCheck rfl rfl rfl rfl ?_
  refine RL.fieldAddr fa_83_0 rfl rfl rfl rfl ?_
  refine RL.loadq Tryz.isAgg81 rfl rfl rfl rfl ?_
  refine RL.lenS Tryz.runUnderlying81 rfl rfl rfl rfl ?_
  refine RL.bin rfl rfl rfl rfl rfl rfl ?_
  refine RL.nil ?_
  refine NQ.seq ?_
  refine CW.only (.cons (k := 0) rfl (.cons (k := 3) rfl (.cons (k := 4) rfl (.cons (k := 12) rfl .nil)))) ?_
  refine CW.cond rfl (fun hlt => ?_) (fun hlt => ?_)
  ·
    have hlt : i < R.length := by simp at hlt; omega
    cases ob with
    | none => exact absurd (hpa rfl) (by omega)
    | some ba =>
    have hx := List.getElem?_eq_getElem hlt
    have htk := List.take_succ_eq_append_getElem hlt
    generalize R[i] = o at hx htk
    have q : RdI (RefK y R (some ba) cp) ⟨ba, 0 + i * 35 + 0, none⟩ (.int .i64 (o.s : Int)) := rc_rd hR (show own (some ba) cp 131 35 R.length (rcs R) ∈ RefK y R (some ba) cp from (by repeat (first | exact List.Mem.head _ | apply List.Mem.tail))) hx (rc_s o)
    refine CW.skip ?_
    refine NQ.seq ?_
    refine CW.seq ?_
    refine CW.block ?_
    refine CW.region (ef := [9, 10]) (bk := [10]) ?_
    refine RL.move rfl rfl rfl rfl ?_
    refine RL.move rfl rfl rfl rfl ?_
    refine RL.nilCheck rfl rfl rfl rfl ?_
    refine RL.fieldAddr fa_83_0 rfl rfl rfl rfl ?_
    refine RL.loadq Tryz.isAgg81 rfl rfl rfl rfl ?_
    refine RL.move rfl rfl rfl rfl ?_
    refine RL.idxAt (j := i) Tryz.runUnderlying81 Tryz.sizeOf131 rfl rfl rfl rfl rfl rfl (hlt) ?_
    refine RL.fieldAddr fa_131_0 rfl rfl rfl rfl ?_
    refine RL.loadq Tryz.isAgg3 rfl rfl rfl rfl ?_
    refine RL.buildSlice [_] Tryz.runUnderlying41 Tryz.sizeOf3 Tryz.zeroValue3 rfl rfl (by decide) (by decide) rfl rfl rfl rfl rfl rfl ?_
    intro b2
    refine RL.appendq el_41 rfl rfl rfl rfl rfl rfl rfl ?_ (hs := (by first | (exact Src.cel (by (solve | (repeat (first | exact List.Mem.head _ | apply List.Mem.tail)))) (by first | rfl | assumption | (simp only [List.length_map]; assumption) | (simp only [List.length_map, List.length_replicate, hrl, hdl]; done) | (simp; done))) | (exact Src.ownS (by (solve | (repeat (first | exact List.Mem.head _ | apply List.Mem.tail))))) | (exact Src.own (by (solve | (repeat (first | exact List.Mem.head _ | apply List.Mem.tail))))) | (exact Src.sls (by (solve | (repeat (first | exact List.Mem.head _ | apply List.Mem.tail))))) | (exact Src.celI (by (solve | (repeat (first | exact List.Mem.head _ | apply List.Mem.tail)))) (by first | rfl | assumption | (simp only [List.length_map]; assumption) | (simp only [List.length_map, List.length_replicate, hrl, hdl]; done) | (simp; done)))))
    intro ob1 cap1 ho1
    refine RL.assign rfl rfl rfl rfl ?_
    refine RL.nil ?_
    refine NQ.block ?_
    refine NQ.seq ?_
    refine CW.only (.cons (k := 0) rfl (.cons (k := 3) rfl (.cons (k := 4) rfl .nil))) ?_
    refine CW.region (ef := []) (bk := []) ?_
    refine RL.move rfl rfl rfl rfl ?_
    refine RL.binX rfl rfl rfl rfl rfl rfl (wrapV_i64 (by omega) (by omega)) ?_
    refine RL.assign rfl rfl rfl rfl ?_
    refine RL.nil ?_
    refine NQ.round (g := (i, o2, c2)) (i + 1, ob1, cap1) (by show i + 1 ≤ R.length; omega) (by show R.length - (i + 1) < R.length - i; omega) (.cons rfl (.cons rfl (.cons rfl .nil))) (fun w h => h.rea (H' := [own ob1 cap1 3 1 (i + 1) (ints (srcR (R.take (i + 1))))]) (fun _ h => h) (by rw [htk, show ints (srcR (R.take i ++ [o])) = ints (srcR (R.take i)) ++ [.int .i64 (o.s : Int)] by simp [ints, srcR]]; exact (by repeat (first | exact Rea.nil | (apply Rea.cons; (solve | (repeat (first | exact Del.here | apply Del.there))))))))
  ·
    refine CW.exit ?_
    refine XQ.seq ?_
    refine XQ.seq ?_
    refine XQ.hit ?_
    refine NQ.seq ?_
    refine CW.seq ?_
    refine CW.region (ef := []) (bk := []) ?_
    refine RL.move rfl rfl rfl rfl ?_
    refine RL.assign rfl rfl rfl rfl ?_
    refine RL.nil ?_
    refine NQ.seq ?_
    refine CW.ret ?_
    have hin : i = R.length := by simp at hlt; omega
    subst hin
    rw [List.take_length]
    exact RQ.post (res1 rfl rfl) (.keep .nil) ⟨o2, c2, rfl, rfl, rfl⟩
theorem mem_srcs {T : List One} {s : Int} : s ∈ srcs T ↔ atO T s ≠ none := by
  rw [srcs, List.mem_map, atO, ne_eq, List.find?_eq_none]
  constructor
  · rintro ⟨o, ho, rfl⟩ h
    exact h o ho (by simp)
  · intro h
    simp only [Classical.not_forall] at h
    obtain ⟨o, ho, h⟩ := h
    exact ⟨o, ho, by simpa using h⟩
theorem Alike.srcs {T R : List One} (h : Alike T R) : sortL (Go.Proofs.YtkkfdoippibfkaaGreat.srcs T) = srcR R := by
  have n1 : (Go.Proofs.YtkkfdoippibfkaaGreat.srcs T).Nodup := List.pairwise_map.2 ((List.pairwise_map.1 h.t.nd).imp (fun h e => h (by omega)))
  have n2 : (srcR R).Nodup := List.pairwise_map.2 (h.up.imp (fun h e => by omega))
  have hp : (Go.Proofs.YtkkfdoippibfkaaGreat.srcs T).Perm (srcR R) := (List.perm_ext_iff_of_nodup n1 n2).2 (fun s => by
    rw [mem_srcs, show s ∈ srcR R ↔ s ∈ Go.Proofs.YtkkfdoippibfkaaGreat.srcs R from Iff.rfl, mem_srcs, ne_eq, ne_eq, h.non])
  have h1 : (sortL (Go.Proofs.YtkkfdoippibfkaaGreat.srcs T)).Perm (srcR R) := (List.mergeSort_perm _ _).trans hp
  have p1 : (sortL (Go.Proofs.YtkkfdoippibfkaaGreat.srcs T)).Pairwise (fun x y => x ≤ y) := by
    have := List.pairwise_mergeSort (le := fun x y : Int => decide (x ≤ y)) (fun a b c h1 h2 => by simp at *; omega) (fun a b => by simp; omega) (Go.Proofs.YtkkfdoippibfkaaGreat.srcs T)
    exact this.imp (fun h => by simpa using h)
  have p2 : (srcR R).Pairwise (fun x y => x ≤ y) := List.pairwise_map.2 (h.up.imp (fun h => by omega))
  exact h1.eq_of_pairwise (fun x y _ _ h1 h2 => Int.le_antisymm h1 h2) p1 p2
theorem Alike.lenT {T R : List One} (h : Alike T R) : T.length = R.length := by
  have := congrArg List.length h.srcs
  rw [List.length_mergeSort] at this
  simpa [Go.Proofs.YtkkfdoippibfkaaGreat.srcs, srcR] using this
theorem Alike.e1R {T R : List One} (h : Alike T R) : ∀ o ∈ R, 1 ≤ o.e := fun o ho => by
  have hne : atO R (o.s : Int) ≠ none := by
    have := mem_srcs (T := R) (s := (o.s : Int))
    exact this.1 (List.mem_map.2 ⟨o, ho, rfl⟩)
  cases hT : atO T (o.s : Int) with
  | none => exact absurd (h.non.2 hT) hne
  | some q =>
    obtain ⟨p, hp, -, he, -⟩ := h.som hT
    have h1 := h.t.e1 q (atO_mem hT).1
    have hpo : p = o := by
      obtain ⟨hm, hs⟩ := atO_mem hp
      have hs : p.s = o.s := by omega
      obtain ⟨A, B, hAB⟩ := List.append_of_mem ho
      have := up_apart h.up hAB p
      rw [hAB] at hm
      rcases List.mem_append.1 hm with hm | hm
      · exact absurd hs (this (by simp [hm]))
      · rcases List.mem_cons.1 hm with rfl | hm
        · rfl
        · exact absurd hs (this (by simp [hm]))
    rw [← hpo, he]; exact h1
end Go.Proofs.YtkkfdoippibfkaaGreat
