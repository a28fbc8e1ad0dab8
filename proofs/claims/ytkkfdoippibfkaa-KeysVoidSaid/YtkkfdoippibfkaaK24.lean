import Derived.Test.YtkkfdoippibfkaaK23
import Derived.Test.YtkkfdoippibfkaaPkS
import Derived.Shelf.SortM.Plain
import Derived.Shelf.SortM.SortNone
import Derived.Ground.SlgmProg
namespace Go.Proofs.Ytkkfdoippibfkaa
open Go.PK
open Go.Shelf

def Try.sortI_ren : Go.Shelf.Ren := ⟨fun | 5 => 105 | 8 => 154 | 7 => 153 | 19 => 202 | 20 => 203 | 10 => 193 | 11 => 194 | 12 => 195 | 13 => 196 | 14 => 197 | 15 => 198 | 16 => 199 | 17 => 200 | 18 => 201 | 30 => 230 | 31 => 231 | 32 => 232 | 33 => 233 | 34 => 234 | 35 => 173 | 40 => 243 | n => n, fun | 23 => 43 | 25 => 3 | 3 => 3 | 32 => 284 | 22 => 43 | 0 => 0 | 44 => 31 | 46 => 50 | 4 => 4 | 36 => 343 | 35 => 342 | 41 => 348 | 5 => 5 | 9 => 9 | 53 => 385 | 57 => 389 | 63 => 408 | 64 => 409 | n => n, fun | n => n⟩
theorem Try.sortI : Go.Proofs.SlLaysM.n5 Try.prog Try.sortI_ren := {
  mixed := by kernel_rfl
  f5 := ⟨Try.f105.name, by decide, Try.func105.trans (congrArg some (by kernel_rfl))⟩
  f7 := ⟨Try.f153.name, by decide, Try.func153.trans (congrArg some (by kernel_rfl))⟩
  f8 := Try.func154.trans (congrArg some (by kernel_rfl))
  f10 := ⟨Try.f193.name, by decide, Try.func193.trans (congrArg some (by kernel_rfl))⟩
  f11 := ⟨Try.f194.name, by decide, Try.func194.trans (congrArg some (by kernel_rfl))⟩
  f12 := ⟨Try.f195.name, by decide, Try.func195.trans (congrArg some (by kernel_rfl))⟩
  f13 := ⟨Try.f196.name, by decide, Try.func196.trans (congrArg some (by kernel_rfl))⟩
  f14 := ⟨Try.f197.name, by decide, Try.func197.trans (congrArg some (by kernel_rfl))⟩
  f15 := ⟨Try.f198.name, by decide, Try.func198.trans (congrArg some (by kernel_rfl))⟩
  f16 := ⟨Try.f199.name, by decide, Try.func199.trans (congrArg some (by kernel_rfl))⟩
  f17 := ⟨Try.f200.name, by decide, Try.func200.trans (congrArg some (by kernel_rfl))⟩
  f18 := ⟨Try.f201.name, by decide, Try.func201.trans (congrArg some (by kernel_rfl))⟩
  f19 := Try.func202.trans (congrArg some (by kernel_rfl))
  f20 := Try.func203.trans (congrArg some (by kernel_rfl))
  f30 := ⟨Try.f230.name, by decide, Try.func230.trans (congrArg some (by kernel_rfl))⟩
  f31 := Try.func231.trans (congrArg some (by kernel_rfl))
  f32 := Try.func232.trans (congrArg some (by kernel_rfl))
  f33 := ⟨Try.f233.name, by decide, Try.func233.trans (congrArg some (by kernel_rfl))⟩
  f34 := ⟨Try.f234.name, by decide, Try.func234.trans (congrArg some (by kernel_rfl))⟩
  f35 := ⟨Try.f173.name, by decide, Try.func173.trans (congrArg some (by kernel_rfl))⟩
  f40 := ⟨Try.f243.name, by decide, Try.func243.trans (congrArg some (by kernel_rfl))⟩
  t0 := Try.underlying0
  a0 := Try.isAgg0
  z0 := Try.sizeOf0
  v0 := Try.zeroValue0
  t3 := Try.underlying3
  a3 := Try.isAgg3
  z3 := Try.sizeOf3
  v3 := Try.zeroValue3
  t4 := Try.underlying4
  a4 := Try.isAgg4
  z4 := Try.sizeOf4
  v4 := Try.zeroValue4
  t5 := Try.underlying5
  a5 := Try.isAgg5
  z5 := Try.sizeOf5
  v5 := Try.zeroValue5
  t9 := Try.underlying9
  a9 := Try.isAgg9
  z9 := Try.sizeOf9
  v9 := Try.zeroValue9
  t22 := Try.underlying43
  a22 := Try.isAgg43
  z22 := Try.sizeOf43
  v22 := Try.zeroValue43
  t23 := Try.underlying43
  a23 := Try.isAgg43
  z23 := Try.sizeOf43
  v23 := Try.zeroValue43
  t25 := Try.underlying3
  a25 := Try.isAgg3
  z25 := Try.sizeOf3
  v25 := Try.zeroValue3
  t32 := Try.underlying284
  a32 := Try.isAgg284
  z32 := Try.sizeOf284
  v32 := Try.zeroValue284
  t35 := Try.underlying342
  a35 := Try.isAgg342
  z35 := Try.sizeOf342
  v35 := Try.zeroValue342
  t36 := Try.underlying343
  a36 := Try.isAgg343
  z36 := Try.sizeOf343
  v36 := Try.zeroValue343
  t41 := Try.underlying348
  a41 := Try.isAgg348
  z41 := Try.sizeOf348
  v41 := Try.zeroValue348
  t44 := Try.underlying31
  a44 := Try.isAgg31
  z44 := Try.sizeOf31
  v44 := Try.zeroValue31
  t46 := Try.underlying50
  a46 := Try.isAgg50
  z46 := Try.sizeOf50
  v46 := Try.zeroValue50
  t53 := Try.underlying385
  a53 := Try.isAgg385
  z53 := Try.sizeOf385
  v53 := Try.zeroValue385
  t57 := Try.underlying389
  a57 := Try.isAgg389
  z57 := Try.sizeOf389
  v57 := Try.zeroValue389
  t63 := Try.underlying408
  a63 := Try.isAgg408
  z63 := Try.sizeOf408
  v63 := Try.zeroValue408
  t64 := Try.underlying409
  a64 := Try.isAgg409
  z64 := Try.sizeOf409
  v64 := Try.zeroValue409 }
theorem sortI_any (b cap n : Nat) (zs : List Int) (hn : zs.length = n) (hb : n < 4611686018427387904) : Spc Try.prog 105 #[slO (some b) n cap] [] [own (some b) cap 3 1 n (zs.map (Value.int .i64))] (fun v I' H' => v = .tuple #[] ∧ I' = [] ∧ H' = [own (some b) cap 3 1 n ((zs.mergeSort fun x y => decide (x ≤ y)).map (Value.int .i64))]) :=
  sort_ints (fun blk off cap zs w h1 h2 h3 => AnyM.slices_Sort_int Try.sortI blk off cap zs w h1 h2 h3) b cap n 3 zs hn hb
theorem sortI_o (ob : Option Nat) (cap n : Nat) (zs : List Int) (hn : zs.length = n) (hb : n < 4611686018427387904) : Spc Try.prog 105 #[slO ob n cap] [] [own ob cap 3 1 n (zs.map (Value.int .i64))] (fun v I' H' => v = .tuple #[] ∧ I' = [] ∧ H' = [own ob cap 3 1 n ((zs.mergeSort fun x y => decide (x ≤ y)).map (Value.int .i64))]) := by
  cases ob with
  | some b => exact sortI_any b cap n zs hn hb
  | none =>
    intro w hw
    have hA := hw.h _ (List.Mem.head _)
    have h0 : n = 0 := hA.2.1
    subst h0
    obtain rfl : zs = [] := List.length_eq_zero_iff.1 hn
    refine (AnyM.slices_Sort_int_none Try.sortI none cap w).mono ?_
    rintro e' w' ⟨rfl, rfl⟩
    exact ⟨_, [], _, rfl, ⟨rfl, rfl, rfl⟩, Keeps.refl _ _, ⟨by simp, fun x hx => by rw [List.mem_singleton.1 hx]; simpa using hA, by simp [own], by simp⟩, fun c hc => .inl hc, by simp⟩
def unint : Value → Int
  | .int _ n => n
  | _ => 0
theorem ints_back (l : List Int) : (ints l).map unint = l := by simp [ints, Function.comp_def, unint]
theorem ints_perm {a b : List Int} (h : (ints a).Perm (ints b)) : a.Perm b := by
  have := h.map unint
  rwa [ints_back, ints_back] at this
abbrev sortL (l : List Int) : List Int := l.mergeSort fun x y => decide (x ≤ y)
theorem sortL_perm {a b : List Int} (h : a.Perm b) : sortL a = sortL b := by
  have h1 : (sortL a).Perm (sortL b) := (List.mergeSort_perm a _).trans (h.trans (List.mergeSort_perm b _).symm)
  have p : ∀ l : List Int, (sortL l).Pairwise (fun x y => x ≤ y) := fun l => by
    have := List.pairwise_mergeSort (le := fun x y : Int => decide (x ≤ y)) (fun a b c h1 h2 => by simp at *; omega) (fun a b => by simp; omega) l
    exact this.imp (fun h => by simpa using h)
  exact h1.eq_of_pairwise (fun x y _ _ h1 h2 => Int.le_antisymm h1 h2) (p a) (p b)
def srcs (T : List One) : List Int := T.map fun o => (o.s : Int)
theorem c1_keys (T : List One) : (c1 T).map (·.1) = ints (srcs T) := by simp [c1, ints, srcs, Function.comp_def]
def SrcR (r m1 m2 : Nat) (T : List One) (c : List (Value × Value)) : Value → List It → List It → Prop := fun v I' H' => ∃ ob cp, v = slO ob T.length cp ∧ I' = [] ∧ H' = [allI (RingL r m1 m2 T c), own ob cp 3 1 T.length (ints (sortL (srcs T)))]
theorem perm_erase {α : Type} : ∀ {l : List α} {q : Nat} {p : α}, l[q]? = some p → l.Perm (p :: l.eraseIdx q)
  | a :: l, 0, p, h => by
    obtain rfl : a = p := by simpa using h
    simp
  | a :: l, q + 1, p, h => by
    have := perm_erase (l := l) (q := q) (p := p) (by simpa using h)
    rw [List.eraseIdx_cons_succ]
    exact (this.cons a).trans (List.Perm.swap _ _ _)
theorem RQ.ringCloseB {Q : Exit → Act → World → Prop} {N : Nat} {E : Env} {w0 : World} {S : List Nat} {I H B : List It} {r m1 m2 : Nat} {T : List One} {c : List (Value × Value)}
    (hr : Rea H (allI (T.map oneI) :: ringI r m1 m2 :: mapI m2 goodP c :: mapI m1 goodI (c1 T) :: B)) (h : RQ Q N E w0 S I (allI (RingL r m1 m2 T c) :: B)) : RQ Q N E w0 S I H := fun a w ha hw => by
  have h1 := (hw.rea (fun _ h => h) hr).unpack
  have hp : (T.map oneI ++ (ringI r m1 m2 :: mapI m2 goodP c :: mapI m1 goodI (c1 T) :: B)).Perm (RingL r m1 m2 T c ++ B) := by
    show (T.map oneI ++ ([ringI r m1 m2, mapI m2 goodP c, mapI m1 goodI (c1 T)] ++ B)).Perm _
    rw [← List.append_assoc]
    refine List.Perm.append_right B ?_
    refine List.perm_append_comm.trans ?_
    exact (List.Perm.swap _ _ _).cons _
  exact RQ.pack h a w ha (h1.perm hp)
theorem sources_any (r m1 m2 : Nat) (T : List One) (c : List (Value × Value)) (hl : T.length ≤ 1000) : Spc Try.prog 47 #[.pointer (some ⟨r, 0, none⟩)] [] [allI (RingL r m1 m2 T c)] (SrcR r m1 m2 T c) := by
  refine Spc.enter Try.func47 rfl rfl rfl (fun w0 hw0 => ?_)
  refine CW.seq ?_
  refine CW.region (ef := []) (bk := []) ?_
  refine RL.assign rfl rfl rfl rfl ?_
  refine RL.nil ?_
  refine NQ.seq ?_
  refine CW.seq ?_
  -- STOP: region; todo top: ["code", ["region", 1, [{"d": 3, "op": ["assign", ["c", ["nilslice"]]], "ty": 43, "pos": "keys.go:138", "after": [], "guard": null}], false]]
  refine CW.ringOpen0 ?_
  refine CW.ownNone (e := 3) 1 ?_
  refine CW.region (ef := []) (bk := []) ?_
  refine RL.assign rfl rfl rfl rfl ?_
  refine RL.nil ?_
  refine NQ.seq ?_
  refine CW.seq ?_
  refine CW.seq ?_
  refine CW.region (ef := []) (bk := []) ?_
  refine RL.move rfl rfl rfl rfl ?_
  refine RL.cmp rfl rfl rfl rfl rfl (eql_ptr Try.runUnderlying24 _) ?_
  refine RL.nil ?_
  refine NQ.seq ?_
  -- STOP: if; todo top: ["code", ["cond", ["t", 6], ["seq", ["region", 3, [{"d": 7, "op": ["move", ["t", 3]], "ty": 43, "pos": "keys.go:140", "after": [], "guard": null}, {"d": 2, "op": ["assign", ["t", 7]], "ty": 43, "pos":
  refine CW.condF rfl (rfl) ?_
  refine CW.skip ?_
  refine NQ.seq ?_
  refine CW.seq ?_
  refine CW.seq ?_
  refine CW.region (ef := [4]) (bk := [4]) ?_
  refine RL.move rfl rfl rfl rfl ?_
  refine RL.nilCheck rfl rfl rfl rfl ?_
  refine RL.fieldAddr fa_109_0 rfl rfl rfl rfl ?_
  refine RL.load Try.isAgg106 rfl rfl rfl rfl (by first | assumption | (apply RdI.rd; assumption) | (apply Rd.get; (solve | (repeat (first | exact List.Mem.head _ | apply List.Mem.tail))); assumption) | (apply Rd.getS; (solve | (repeat (first | exact List.Mem.head _ | apply List.Mem.tail))); assumption) | (apply Rd.getO; (solve | (repeat (first | exact List.Mem.head _ | apply List.Mem.tail))); assumption) | (apply Rd.getI; (solve | (repeat (first | exact List.Mem.head _ | apply List.Mem.tail))); assumption) | (apply Rd.cel; (solve | (repeat (first | exact List.Mem.head _ | apply List.Mem.tail))); exact rfl) | (apply Rd.celI; (solve | (repeat (first | exact List.Mem.head _ | apply List.Mem.tail))); exact rfl)) ?_
  -- STOP: op; op 4: d=12 ["range", 106, ["t", 11]] guard=None (keys.go:142)
  refine RL.range Try.runUnderlying106 rfl rfl rfl rfl rfl rfl (by repeat (first | exact Pick.nil | apply Pick.take | apply Pick.leave)) (fun it => ?_)
  refine RL.nil ?_
  refine NQ.seq ?_
  refine CW.only (.cons (k := 2) rfl (.cons (k := 3) rfl (.cons (k := 12) rfl .nil))) ?_
  refine CW.block ?_
  -- STOP: loop; todo top: ["code", ["loop", ["seq", ["region", 5, [{"d": 13, "op": ["next", ["t", 12], false], "ty": 0, "pos": "keys.go:142", "after": [], "guard": null}, {"d": 14, "op": ["extract", ["t", 13], 0], "ty": 4, "po
  refine CW.loop (γ := List (Value × Value) × List Int × Option Nat × Nat × Nat) (fun g => (ints g.2.1 ++ g.1.map (·.1)).Perm (ints (srcs T)) ∧ g.2.1.length = g.2.2.2.2) (fun g => [(3, slO g.2.2.1 g.2.2.2.2 g.2.2.2.1), (12, .pointer (some ⟨it, 0, none⟩))]) (fun _ => [])
    (fun g => [mapIt m1 it goodI (c1 T) g.1, own g.2.2.1 g.2.2.2.1 3 1 g.2.2.2.2 (ints g.2.1), allI (T.map oneI), ringI r m1 m2, mapI m2 goodP c]) (fun g => g.1.length) (c1 T, [], none, 0, 0) ⟨by rw [c1_keys]; exact List.Perm.refl _, rfl⟩ (.cons rfl (.cons rfl .nil)) (fun w h => h.rea (fun _ h => h) (by repeat (first | exact Rea.nil | (apply Rea.cons; (solve | (repeat (first | exact Del.here | apply Del.there))))))) ?_
  rintro ⟨left, acc, ob, cp, n⟩ ⟨hp, hn⟩
  dsimp only at hp hn ⊢
  have hlen : n + left.length = T.length := by
    have := hp.length_eq
    simp [srcs, hn] at this; exact this
  refine CW.fact (p := ∀ p ∈ left, goodI p.1) (fun w hC => fun p hp => ((mapIt_facts (hC.s.h _ (List.Mem.head _))).2.2 p hp).2) (fun hgd => ?_)
  refine CW.seq ?_
  refine CW.region (ef := [0]) (bk := [0]) ?_
  -- STOP: op; op 0: d=13 ["next", ["t", 12], false] guard=None (keys.go:142)
  refine RL.nextC rfl rfl rfl rfl rfl rfl (.take (Pick.none _)) (fun hl => ?_) (fun q p hq => ?_)
  · subst hl
    have hn2 : n = T.length := by simpa using hlen
    subst hn2
    refine RL.extract rfl rfl rfl rfl rfl ?_
    refine RL.nil ?_
    refine NQ.seq ?_
    refine CW.seq ?_
    -- STOP: if; todo top: ["code", ["cond", ["t", 14], ["skip"], ["exit", 0]]]
    refine CW.condF rfl ((by simp)) ?_
    refine CW.exit ?_
    refine XQ.seq ?_
    refine XQ.seq ?_
    refine XQ.hit ?_
    refine NQ.seq ?_
    refine CW.seq ?_
    -- STOP: region; todo top: ["code", ["region", 8, [{"d": 21, "op": ["move", ["t", 3]], "ty": 43, "pos": "keys.go:145", "after": [], "guard": null}, {"d": 22, "op": ["call", ["f", 105], [["t", 21]], [43]], "ty": 0, "pos": "keys.
    refine CW.unrange ?_
    refine CW.region (ef := [1]) (bk := [1]) ?_
    refine RL.move rfl rfl rfl rfl ?_
    refine RL.call (sortI_o ob cp T.length acc hn (by omega)) Try.call105 rfl rfl rfl rfl rfl (by repeat (first | exact Pick.nil | apply Pick.take | apply Pick.leave)) (by repeat (first | exact Lend.nil | (refine Lend.inI ?_ ?_; (solve | (repeat (first | exact List.Mem.head _ | apply List.Mem.tail)))) | (refine Lend.inH ?_ ?_; (solve | (repeat (first | exact List.Mem.head _ | apply List.Mem.tail)))))) (.inr rfl) ?_
    -- STOP: called; todo top: ["code", ["region", 8, [{"d": 21, "op": ["move", ["t", 3]], "ty": 43, "pos": "keys.go:145", "after": [], "guard": null}, {"d": 22, "op": ["call", ["f", 105], [["t", 21]], [43]], "ty": 0, "pos": "keys.
    rintro _ _ _ ⟨rfl, rfl, rfl⟩
    refine RL.nil ?_
    refine NQ.seq ?_
    refine CW.seq ?_
    refine CW.region (ef := []) (bk := []) ?_
    refine RL.move rfl rfl rfl rfl ?_
    refine RL.assign rfl rfl rfl rfl ?_
    refine RL.nil ?_
    refine NQ.seq ?_
    refine CW.only (.cons (k := 2) rfl .nil) ?_
    refine CW.ret ?_
    -- STOP: ret; end
    have hs : sortL acc = sortL (srcs T) := sortL_perm (ints_perm (by simpa using hp))
    rw [show (acc.mergeSort fun x y => decide (x ≤ y)) = sortL (srcs T) from hs]
    refine RQ.ringCloseB (T := T) (B := [own ob cp 3 1 T.length (ints (sortL (srcs T)))]) (by repeat (first | exact Rea.nil | (apply Rea.cons; (solve | (repeat (first | exact Del.here | apply Del.there)))))) ?_
    exact RQ.post (res1 rfl rfl) (.keep (.keep .nil)) ⟨ob, cp, rfl, rfl, rfl⟩
  ·
    obtain ⟨s, hs⟩ := hgd p (List.mem_of_getElem? hq)
    obtain ⟨pk, pv⟩ := p
    dsimp only at hs
    subst hs
    refine RL.extract rfl rfl rfl rfl rfl ?_
    refine RL.nil ?_
    refine NQ.seq ?_
    refine CW.seq ?_
    -- STOP: if; todo top: ["code", ["cond", ["t", 14], ["skip"], ["exit", 0]]]
    refine CW.condT rfl ((by simp)) ?_
    refine CW.skip ?_
    refine NQ.seq ?_
    refine CW.block ?_
    refine CW.seq ?_
    refine CW.region (ef := []) (bk := []) ?_
    -- STOP: op; op 0: d=15 ["entry", ["t", 12]] guard=None (keys.go:142)
    refine RL.entry rfl rfl rfl rfl (List.Mem.head _) ?_
    refine RL.extract rfl rfl rfl rfl rfl ?_
    refine RL.assign rfl rfl rfl rfl ?_
    refine RL.nil ?_
    refine NQ.seq ?_
    refine CW.region (ef := [2, 3]) (bk := [3]) ?_
    refine RL.move rfl rfl rfl rfl ?_
    refine RL.move rfl rfl rfl rfl ?_
    refine RL.buildSlice [_] Try.runUnderlying43 Try.sizeOf3 Try.zeroValue3 rfl rfl (by decide) (by decide) rfl rfl rfl rfl rfl rfl ?_
    intro b1
    refine RL.appendA el_43 rfl rfl rfl rfl rfl rfl rfl (by first | exact ⟨(.take (Pick.none _)), rfl⟩ | exact ⟨(.leave (.take (Pick.none _))), rfl⟩ | exact ⟨(.leave (.leave (.take (Pick.none _)))), rfl⟩ | exact ⟨(.leave (.leave (.leave (.take (Pick.none _))))), rfl⟩ | exact ⟨(.leave (.leave (.leave (.leave (.take (Pick.none _)))))), rfl⟩ | exact ⟨(.leave (.leave (.leave (.leave (.leave (.take (Pick.none _))))))), rfl⟩ | exact ⟨(.leave (.leave (.leave (.leave (.leave (.leave (.take (Pick.none _)))))))), rfl⟩ | exact ⟨(.leave (.leave (.leave (.leave (.leave (.leave (.leave (.take (Pick.none _))))))))), rfl⟩ | exact ⟨(.leave (.leave (.leave (.leave (.leave (.leave (.leave (.leave (.take (Pick.none _)))))))))), rfl⟩ | exact ⟨(.leave (.leave (.leave (.leave (.leave (.leave (.leave (.leave (.leave (.take (Pick.none _))))))))))), rfl⟩) (by first | (exact Src.cel (by (solve | (repeat (first | exact List.Mem.head _ | apply List.Mem.tail)))) (by first | rfl | assumption | (simp only [List.length_map]; assumption) | (simp only [List.length_map, List.length_replicate]; done) | (simp; done))) | (exact Src.ownS (by (solve | (repeat (first | exact List.Mem.head _ | apply List.Mem.tail))))) | (exact Src.own (by (solve | (repeat (first | exact List.Mem.head _ | apply List.Mem.tail))))) | (exact Src.sls (by (solve | (repeat (first | exact List.Mem.head _ | apply List.Mem.tail))))) | (exact Src.celI (by (solve | (repeat (first | exact List.Mem.head _ | apply List.Mem.tail)))) (by first | rfl | assumption | (simp only [List.length_map]; assumption) | (simp only [List.length_map, List.length_replicate]; done) | (simp; done)))) (by first | exact one_map one8 _ | exact ones_spec rfl | exact one_map (fun _ => rfl) _ | (intro u hu; simp at hu; simp [hu, Value.oneCell'])) (by first | omega | (simp only [maxLen]; omega)) (by first | omega | (simp only [maxLen]; omega)) ?_
    intro ob1 cap1 ho1
    refine RL.assign rfl rfl rfl rfl ?_
    refine RL.nil ?_
    refine NQ.block ?_
    -- STOP: round; todo top: ["N"]
    refine NQ.round (g := (left, acc, ob, cp, n)) (left.eraseIdx q, acc ++ [s], ob1, cap1, n + 1) ⟨?_, by simp [hn]⟩ (by show (left.eraseIdx q).length < left.length; rw [List.length_eraseIdx_of_lt (List.getElem?_eq_some_iff.1 hq).1]; have := (List.getElem?_eq_some_iff.1 hq).1; omega) (.cons rfl (.cons rfl .nil)) (fun w h => (h.rea (H' := [mapCt m1 it goodI (c1 T) (left.eraseIdx q) (.int .i64 s, pv), own ob1 cap1 3 1 (n + 1) (ints (acc ++ [s])), allI (T.map oneI), ringI r m1 m2, mapI m2 goodP c]) (fun _ h => h) (by rw [show ints (acc ++ [s]) = ints acc ++ [.int .i64 s] by simp [ints]]; exact (by repeat (first | exact Rea.nil | (apply Rea.cons; (solve | (repeat (first | exact Del.here | apply Del.there)))))))).uncur)
    refine List.Perm.trans ?_ hp
    have h1 : ((left.map (·.1))).Perm (Value.int .i64 s :: (left.eraseIdx q).map (·.1)) := by
      have := perm_erase hq
      exact (this.map (·.1))
    show (ints (acc ++ [s]) ++ (left.eraseIdx q).map (·.1)).Perm (ints acc ++ left.map (·.1))
    rw [show ints (acc ++ [s]) = ints acc ++ [.int .i64 s] by simp [ints], List.append_assoc]
    exact List.Perm.append_left _ h1.symm
end Go.Proofs.Ytkkfdoippibfkaa
