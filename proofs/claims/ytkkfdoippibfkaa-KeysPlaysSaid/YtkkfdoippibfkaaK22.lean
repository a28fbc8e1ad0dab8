import Derived.Test.YtkkfdoippibfkaaKD
import Derived.Test.YtkkfdoippibfkaaKC
namespace Go.Proofs.Ytkkfdoippibfkaa
open Go.PK

theorem keyM_len (T : List One) (s : Int) (e : Nat) (t : Int) : (keyM T s e t).1.length = 32 := by
  unfold keyM
  split
  · split
    · rfl
    · split
      · exact derive_len _ _ _
      · rfl
  · rfl
theorem keyM_of {T : List One} {s t : Int} {o : One} (ht : tickB t = true) (hs : mayB s = true) (ho : atO T s = some o) (e : Nat) : (keyM T s e t).2 = if goesB o e t = true then 0 else 160 := by
  rw [keyM, if_pos ⟨ht, hs⟩, ho]
  dsimp only
  split <;> rfl
theorem act16_rdsN {I : List It} {a : Addr} {n i : Nat} {l : List Act16} {x : Act16} (hl : ∀ x ∈ l, x.Ok) (hm : sls (some a) 38 n (l.flatMap Act16.cells) ∈ I) (hx : l[i]? = some x) : RdsN I (a.add (i * 38)) 38 x.cells :=
  ⟨fun _ => (Rds.sls hm).part (fun q u hu => by
    have hlt : q < 38 := by have := (List.getElem?_eq_some_iff.1 hu).1; rwa [act16_len (hl x (List.mem_of_getElem? hx))] at this
    rw [get_flat (fun a ha => act16_len (hl a ha)) hx hlt]; exact hu), act16_len (hl x (List.mem_of_getElem? hx))⟩
def keyFive : List B8 := 5#8 :: List.replicate 31 0#8
structure KG where
  i : Nat
  T : List One
  c : List (Value × Value)
  R : List One
  ob : Option Nat
  cp : Nat
  was : Nat
def KG.ok (s : Int) (g : KG) : Prop := Alike g.T g.R ∧ KOk g.T g.c ∧ ∃ o, atO g.T s = some o ∧ g.was ≤ o.e
theorem goes_now (o : One) (t : Int) : goesB o o.e t = true := by simp [goesB, hasE]
theorem goes_next {o : One} {e : Nat} (h : o.e < 4294967296) (he : e = o.e + 1 ∨ (e = 0 ∧ o.e = 4294967295)) (t : Int) : goesB o e t = false := by
  simp [goesB, hasE]; omega
theorem goes_two {o : One} {e : Nat} (he : e + 2 = o.e) (t : Int) : goesB o e t = false := by
  simp [goesB, hasE]; omega
theorem goes_later {o : One} {e : Nat} (he : e + 1 = o.e) {t u : Int} (h : 0 ≤ u) (hg : goesB o e (t + u) = true) : goesB o e t = true := by
  simp [goesB, hasE] at hg ⊢
  omega
theorem goes_one {o : One} (h1 : o.e = 1) (hg : o.g = -1) (t : Int) : goesB o 0 t = false := by
  simp [goesB, hasE, h1, hg]
theorem u32_next {n : Nat} (h : n < 4294967296) : ∃ e : Nat, IntKind.u32.wrap ((n : Int) + 1) = (e : Int) ∧ e < 4294967296 ∧ (e = n + 1 ∨ (e = 0 ∧ n = 4294967295)) := by
  by_cases h1 : n = 4294967295
  · subst h1; exact ⟨0, by decide, by omega, .inr ⟨rfl, rfl⟩⟩
  · exact ⟨n + 1, by simp [IntKind.wrap, IntKind.bits, IntKind.signed]; omega, by omega, .inl rfl⟩
theorem u32_back {n k : Nat} (h : n < 4294967296) (hk : k ≤ n) : IntKind.u32.wrap ((n : Int) - (k : Int)) = ((n - k : Nat) : Int) := by
  simp [IntKind.wrap, IntKind.bits, IntKind.signed]; omega
theorem kcount (p : Option Addr) (n : Nat) (L : List Act16) (source tick later : Int) (hL : ∀ x ∈ L, x.Ok) (hc : L.length ≤ n) : Spc Try.prog 3 #[.slice p L.length n, .int .i64 source, .int .i64 tick, .int .i64 later] [sls p 38 L.length (L.flatMap Act16.cells)] [] (Is (.bool true)) := by
  have hs0 := amongN_lt (x := source) (n := 8) (by decide)
  have ht0 := amongN_lt (x := tick) (n := 100000) (by decide)
  have hl0 := amongN_lt (x := later) (n := 100000) (by decide)
  refine Spc.enter Try.func3 rfl rfl rfl (fun w0 hw0 => ?_)
  refine CW.seq ?_
  refine CW.region (ef := []) (bk := []) ?_
  refine RL.assign rfl rfl rfl rfl ?_
  refine RL.nil ?_
  refine NQ.seq ?_
  refine CW.seq ?_
  refine CW.seq ?_
  refine CW.region (ef := []) (bk := []) ?_
  refine RL.callv (works16) Try.call11 rfl rfl rfl rfl (by repeat (first | exact Lend.nil | (refine Lend.inI ?_ ?_; (solve | (repeat (first | exact List.Mem.head _ | apply List.Mem.tail)))) | (refine Lend.inH ?_ ?_; (solve | (repeat (first | exact List.Mem.head _ | apply List.Mem.tail)))))) ?_
  refine RL.not rfl rfl rfl rfl ?_
  refine RL.nil ?_
  refine NQ.seq ?_
  -- STOP: if; todo top: ["code", ["cond", ["t", 25], ["seq", ["region", 2, [{"d": 8, "op": ["assign", ["c", ["bool", false]]], "ty": 4, "pos": "law.go:73", "after": [], "guard": null}], false], ["ret"]], ["skip"]]]
  refine CW.condF rfl ((by simp)) ?_
  refine CW.skip ?_
  refine NQ.seq ?_
  refine CW.seq ?_
  refine CW.region (ef := [0, 2]) (bk := []) ?_
  refine RL.call (new_keys) Try.call12 rfl rfl rfl rfl rfl (by repeat (first | exact Pick.nil | apply Pick.take | apply Pick.leave)) (by repeat (first | exact Lend.nil | (refine Lend.inI ?_ ?_; (solve | (repeat (first | exact List.Mem.head _ | apply List.Mem.tail)))) | (refine Lend.inH ?_ ?_; (solve | (repeat (first | exact List.Mem.head _ | apply List.Mem.tail)))))) (.inl rfl) ?_
  -- STOP: called; op 1: d=27 ["build", 29, []] guard=None (law.go:75)
  rintro _ _ _ ⟨r, m1, m2, rfl, rfl, rfl⟩
  have hmay : mayB ((amongN source 8 : Nat) : Int) = true := by simp [mayB]; omega
  have htk : tickB ((amongN tick 100000 : Nat) : Int) = true := by simp [tickB]; omega
  refine RL.buildS _ Try.zeroValue29 pl_29 rfl rfl rfl rfl rfl ?_
  refine RL.box rfl rfl rfl rfl rfl rfl ?_
  intro b1
  refine RL.assign rfl rfl rfl rfl ?_
  refine RL.assign rfl rfl rfl rfl ?_
  refine RL.nil ?_
  refine NQ.seq ?_
  refine CW.only (.cons (k := 0) rfl (.cons (k := 1) rfl (.cons (k := 2) rfl (.cons (k := 3) rfl (.cons (k := 9) rfl (.cons (k := 10) rfl .nil)))))) ?_
  refine CW.seq ?_
  refine CW.region (ef := []) (bk := []) ?_
  refine RL.move rfl rfl rfl rfl ?_
  refine RL.callv (among_any source 8 (by omega) (by omega)) Try.call13 rfl rfl rfl rfl (by repeat (first | exact Lend.nil | (refine Lend.inI ?_ ?_; (solve | (repeat (first | exact List.Mem.head _ | apply List.Mem.tail)))) | (refine Lend.inH ?_ ?_; (solve | (repeat (first | exact List.Mem.head _ | apply List.Mem.tail)))))) ?_
  refine RL.move rfl rfl rfl rfl ?_
  refine RL.callv (among_any tick 100000 (by omega) (by omega)) Try.call13 rfl rfl rfl rfl (by repeat (first | exact Lend.nil | (refine Lend.inI ?_ ?_; (solve | (repeat (first | exact List.Mem.head _ | apply List.Mem.tail)))) | (refine Lend.inH ?_ ?_; (solve | (repeat (first | exact List.Mem.head _ | apply List.Mem.tail)))))) ?_
  refine RL.assign rfl rfl rfl rfl ?_
  refine RL.assign rfl rfl rfl rfl ?_
  refine RL.nil ?_
  refine NQ.seq ?_
  refine CW.seq ?_
  refine CW.region (ef := []) (bk := []) ?_
  refine RL.assign rfl rfl rfl rfl ?_
  refine RL.nil ?_
  refine NQ.seq ?_
  refine CW.seq ?_
  -- STOP: region; todo top: ["code", ["region", 6, [{"d": 33, "op": ["move", ["t", 9]], "ty": 24, "pos": "law.go:78", "after": [], "guard": null}, {"d": 34, "op": ["move", ["t", 1]], "ty": 3, "pos": "law.go:78", "after": [], "gu
  generalize amongN source 8 = s at *
  generalize amongN tick 100000 = t at *
  refine CW.region (ef := [3]) (bk := [3]) ?_
  refine RL.move rfl rfl rfl rfl ?_
  refine RL.move rfl rfl rfl rfl ?_
  -- STOP: op; op 2: d=35 ["build", 35, [[0, ["c", ["int", "Go.IntKind.u8", 5]]]]] guard=None (law.go:78)
  refine RL.buildA (bytes keyFive) Try.zeroValue35 Try.runUnderlying35 Try.sizeOf5 rfl rfl rfl rfl rfl ?_
  refine RL.call (put_any r m1 m2 [] [] (s : Int) keyFive rfl tok_nil kok_nil) Try.call14 rfl rfl rfl rfl rfl (by repeat (first | exact Pick.nil | apply Pick.take | apply Pick.leave)) (by repeat (first | exact Lend.nil | (refine Lend.inI ?_ ?_; (solve | (repeat (first | exact List.Mem.head _ | apply List.Mem.tail)))) | (refine Lend.inH ?_ ?_; (solve | (repeat (first | exact List.Mem.head _ | apply List.Mem.tail)))))) (.inr rfl) ?_
  -- STOP: called; todo top: ["code", ["region", 6, [{"d": 33, "op": ["move", ["t", 9]], "ty": 24, "pos": "law.go:78", "after": [], "guard": null}, {"d": 34, "op": ["move", ["t", 1]], "ty": 3, "pos": "law.go:78", "after": [], "gu
  rintro _ _ _ ⟨rfl, rfl, bp, c1', hk1, rfl⟩
  refine RL.nil ?_
  refine NQ.seq ?_
  refine CW.only (.cons (k := 0) rfl (.cons (k := 1) rfl (.cons (k := 2) rfl (.cons (k := 3) rfl (.cons (k := 9) rfl (.cons (k := 10) rfl (.cons (k := 11) rfl .nil))))))) ?_
  refine CW.seq ?_
  -- STOP: region; todo top: ["code", ["region", 7, [{"d": 37, "op": ["move", ["t", 10]], "ty": 26, "pos": "law.go:79", "after": [], "guard": null}, {"d": 38, "op": ["move", ["t", 1]], "ty": 3, "pos": "law.go:79", "after": [], "g
  refine CW.ownNone (e := 172) 35 ?_
  refine CW.rea (fun _ h => h) (H' := allI (RingL r m1 m2 (putT [] (s : Int) keyFive bp) c1') :: RefK b1 [] none 0) (by repeat (first | exact Rea.nil | (apply Rea.cons; (solve | (repeat (first | exact Del.here | apply Del.there)))))) ?_
  refine CW.region (ef := [3]) (bk := [3]) ?_
  refine RL.move rfl rfl rfl rfl ?_
  refine RL.move rfl rfl rfl rfl ?_
  -- STOP: op; op 2: d=39 ["build", 35, [[0, ["c", ["int", "Go.IntKind.u8", 5]]]]] guard=None (law.go:79)
  refine RL.buildA (bytes keyFive) Try.zeroValue35 Try.runUnderlying35 Try.sizeOf5 rfl rfl rfl rfl rfl ?_
  refine RL.call (rput_any' b1 [] none 0 (s : Int) keyFive rfl (by simp [ROk]) (by simp)) Try.call15 rfl rfl rfl rfl rfl (by repeat (first | exact Pick.nil | apply Pick.take | apply Pick.leave)) (by repeat (first | exact Lend.nil | (refine Lend.inI ?_ ?_; (solve | (repeat (first | exact List.Mem.head _ | apply List.Mem.tail)))) | (refine Lend.inH ?_ ?_; (solve | (repeat (first | exact List.Mem.head _ | apply List.Mem.tail)))))) (.inr rfl) ?_
  -- STOP: called; todo top: ["code", ["region", 7, [{"d": 37, "op": ["move", ["t", 10]], "ty": 26, "pos": "law.go:79", "after": [], "guard": null}, {"d": 38, "op": ["move", ["t", 1]], "ty": 3, "pos": "law.go:79", "after": [], "g
  rintro _ _ _ ⟨rfl, rfl, ob1, cp1, rfl⟩
  refine RL.nil ?_
  refine NQ.seq ?_
  refine CW.seq ?_
  refine CW.seq ?_
  refine CW.region (ef := []) (bk := []) ?_
  refine RL.assign rfl rfl rfl rfl ?_
  refine RL.nil ?_
  refine NQ.seq ?_
  refine CW.block ?_
  -- STOP: loop; todo top: ["code", ["loop", ["seq", ["seq", ["region", 9, [{"d": 41, "op": ["move", ["t", 12]], "ty": 3, "pos": "law.go:80", "after": [], "guard": null}, {"d": 42, "op": ["move", ["t", 0]], "ty": 22, "pos": "la
  have hA1 := (alike_nil.putA (s : Int) (k := keyFive) rfl bp).1
  have hP1 : atO (putT [] (s : Int) keyFive bp) (s : Int) = some ⟨s, keyFive, 1, -1, bp⟩ := by simp [putT, hmay, atO]
  refine CW.loop (γ := KG) (KG.ok (s : Int)) (fun g => [(0, .slice p L.length n), (1, .int .i64 (s : Int)), (2, .int .i64 (t : Int)), (3, .int .i64 later), (9, .pointer (some ⟨r, 0, none⟩)), (10, .pointer (some ⟨b1, 0, none⟩)), (11, .int .u32 (g.was : Int)), (12, .int .i64 (g.i : Int))])
    (fun _ => [sls p 38 L.length (L.flatMap Act16.cells)]) (fun g => Rings r m1 m2 b1 g.T g.c g.R g.ob g.cp) (fun g => L.length - g.i) ⟨0, putT [] (s : Int) keyFive bp, c1', rputA [] (s : Int) keyFive, ob1, cp1, 0⟩ ⟨hA1, hk1, _, hP1, Nat.zero_le _⟩
    (.cons rfl (.cons rfl (.cons rfl (.cons rfl (.cons rfl (.cons rfl (.cons rfl (.cons rfl .nil)))))))) (fun w h => h.rea (fun _ h => h) (by repeat (first | exact Rea.nil | (apply Rea.cons; (solve | (repeat (first | exact Del.here | apply Del.there))))))) ?_
  rintro ⟨i, T, c, R, ob, cp, was⟩ ⟨hA, hK, o, ho, hwas⟩
  dsimp only at hA hK ho hwas ⊢
  refine CW.fact (p := p = none → L.length = 0) (fun w hC e => sls_nil (hC.s.i (sls p 38 L.length (L.flatMap Act16.cells)) (List.Mem.head _)) e) (fun hpa => ?_)
  refine CW.seq ?_
  refine CW.seq ?_
  refine CW.region (ef := []) (bk := []) ?_
  refine RL.move rfl rfl rfl rfl ?_
  refine RL.move rfl rfl rfl rfl ?_
  refine RL.lenS Try.runUnderlying22 rfl rfl rfl rfl ?_
  refine RL.bin rfl rfl rfl rfl rfl rfl ?_
  refine RL.move rfl rfl rfl rfl ?_
  apply RL.andB (d := 45) (dp := 48) (l' := (Sq.of [])) rfl (.cons (k := 0) rfl (.cons (k := 1) rfl (.cons (k := 2) rfl (.cons (k := 3) rfl (.cons (k := 9) rfl (.cons (k := 10) rfl (.cons (k := 11) rfl (.cons (k := 12) rfl .nil))))))))
  ·
    intro hb5 K5
    refine RL.move rfl rfl rfl rfl ?_
    refine RL.bin rfl rfl rfl rfl rfl rfl ?_
    refine RL.pickT rfl rfl rfl rfl rfl ?_
    exact K5 _ (.cons rfl (.cons (k := 0) rfl (.cons (k := 1) rfl (.cons (k := 2) rfl (.cons (k := 3) rfl (.cons (k := 9) rfl (.cons (k := 10) rfl (.cons (k := 11) rfl (.cons (k := 12) rfl .nil)))))))))
  ·
    intro hb5 K5
    refine RL.skip rfl rfl rfl rfl ?_
    refine RL.skip rfl rfl rfl rfl ?_
    refine RL.pickF rfl rfl rfl rfl rfl ?_
    exact K5 _ (.cons rfl (.cons (k := 0) rfl (.cons (k := 1) rfl (.cons (k := 2) rfl (.cons (k := 3) rfl (.cons (k := 9) rfl (.cons (k := 10) rfl (.cons (k := 11) rfl (.cons (k := 12) rfl .nil)))))))))
  refine RL.nil ?_
  refine NQ.seq ?_
  -- STOP: if; todo top: ["code", ["cond", ["t", 48], ["skip"], ["exit", 0]]]
  refine CW.cond rfl (fun hlt => ?_) (fun hlt => ?_)
  ·
    obtain ⟨hlt, hlt40⟩ : i < L.length ∧ i < 40 := by simp at hlt; omega
    cases p with
    | none => exact absurd (hpa rfl) (by omega)
    | some a =>
    have hx := List.getElem?_eq_getElem hlt
    generalize L[i] = x at hx
    have w9 : RdsN [sls (some a) 38 L.length (L.flatMap Act16.cells)] (a.add (i * 38)) 38 x.cells := act16_rdsN hL (List.Mem.head _) hx
    refine CW.skip ?_
    refine NQ.seq ?_
    refine CW.seq ?_
    refine CW.block ?_
    refine CW.seq ?_
    refine CW.region (ef := [6]) (bk := [6]) ?_
    refine RL.move rfl rfl rfl rfl ?_
    refine RL.move rfl rfl rfl rfl ?_
    refine RL.move rfl rfl rfl rfl ?_
    refine RL.move rfl rfl rfl rfl ?_
    first | refine RL.idxAt (j := i) Try.runUnderlying22 Try.sizeOf38 rfl rfl rfl rfl rfl rfl (hlt) ?_ | refine RL.idx (j := i) Try.runUnderlying22 Try.sizeOf38 rfl rfl rfl rfl rfl rfl (hlt) ?_
    first | refine RL.loadM Try.isAgg38 Try.sizeOf38 rfl rfl rfl rfl (by assumption) ?_ | refine RL.loadA Try.isAgg38 Try.sizeOf38 rfl rfl rfl rfl (by first | assumption | (apply RdsI.rds; assumption)) (by first | rfl | assumption | (simp only [List.length_map]; assumption) | (simp only [List.length_map, List.length_replicate]; done) | (simp; done)) ?_ | refine RL.loadW Try.isAgg38 Try.sizeOf38 rfl rfl rfl rfl (by (solve | (repeat (first | exact List.Mem.head _ | apply List.Mem.tail)))) (by first | rfl | assumption | (simp only [List.length_map]; assumption) | (simp only [List.length_map, List.length_replicate]; done) | (simp; done)) ?_
    refine RL.call (do16_any r m1 m2 b1 T c R ob cp x (hL x (List.mem_of_getElem? hx)) hA hK) Try.call16 rfl rfl rfl rfl rfl (by repeat (first | exact Pick.nil | apply Pick.take | apply Pick.leave)) (by repeat (first | exact Lend.nil | (refine Lend.inI ?_ ?_; (solve | (repeat (first | exact List.Mem.head _ | apply List.Mem.tail)))) | (refine Lend.inH ?_ ?_; (solve | (repeat (first | exact List.Mem.head _ | apply List.Mem.tail)))))) (.inr rfl) ?_
    -- STOP: called; todo top: ["code", ["region", 11, [{"d": 51, "op": ["move", ["t", 9]], "ty": 24, "pos": "law.go:81", "after": [], "guard": null}, {"d": 52, "op": ["move", ["t", 10]], "ty": 26, "pos": "law.go:81", "after": [], 
    rintro _ _ _ ⟨rfl, rfl, T', c', R', ob', cp', hA', hK', hr', rfl⟩
    obtain ⟨o', ho', hle⟩ := hr' (s : Int) o ho
    have he1 := hA'.t.e1 o' (atO_mem ho').1
    have he2 := hA'.t.e2 o' (atO_mem ho').1
    have hep : epochM T' (s : Int) = o'.e := by rw [epochM, if_pos hmay, ho']
    obtain ⟨e1, hw1, hlt1, hnx⟩ := u32_next he2
    refine RL.nil ?_
    refine NQ.seq ?_
    refine CW.only (.cons (k := 0) rfl (.cons (k := 1) rfl (.cons (k := 2) rfl (.cons (k := 3) rfl (.cons (k := 9) rfl (.cons (k := 10) rfl (.cons (k := 11) rfl (.cons (k := 12) rfl .nil)))))))) ?_
    refine CW.seq ?_
    refine CW.region (ef := []) (bk := []) ?_
    refine RL.move rfl rfl rfl rfl ?_
    refine RL.move rfl rfl rfl rfl ?_
    refine RL.callv (epoch_any r m1 m2 T' c' (s : Int) hA'.t) Try.call17 rfl rfl rfl rfl (by repeat (first | exact Lend.nil | (refine Lend.inI ?_ ?_; (solve | (repeat (first | exact List.Mem.head _ | apply List.Mem.tail)))) | (refine Lend.inH ?_ ?_; (solve | (repeat (first | exact List.Mem.head _ | apply List.Mem.tail)))))) ?_
    refine RL.assign rfl rfl rfl rfl ?_
    refine RL.nil ?_
    refine NQ.seq ?_
    refine CW.seq ?_
    -- STOP: region; todo top: ["code", ["region", 13, [{"d": 62, "op": ["move", ["t", 9]], "ty": 24, "pos": "law.go:83", "after": [], "guard": null}, {"d": 63, "op": ["move", ["t", 1]], "ty": 3, "pos": "law.go:83", "after": [], "g
    rw [hep]
    refine CW.region (ef := [8, 9]) (bk := [9]) ?_
    refine RL.move rfl rfl rfl rfl ?_
    refine RL.move rfl rfl rfl rfl ?_
    refine RL.move rfl rfl rfl rfl ?_
    refine RL.move rfl rfl rfl rfl ?_
    refine RL.callv (key_any r m1 m2 T' c' (s : Int) o'.e (t : Int) hA'.t hK' he2) Try.call18 rfl rfl rfl rfl (by repeat (first | exact Lend.nil | (refine Lend.inI ?_ ?_; (solve | (repeat (first | exact List.Mem.head _ | apply List.Mem.tail)))) | (refine Lend.inH ?_ ?_; (solve | (repeat (first | exact List.Mem.head _ | apply List.Mem.tail)))))) ?_
    refine RL.move rfl rfl rfl rfl ?_
    refine RL.extract rfl rfl rfl rfl rfl ?_
    refine RL.extract rfl rfl rfl rfl rfl ?_
    refine RL.alloc (cs := List.replicate 32 (U8 0#8)) Try.zeroValue35 rfl rfl rfl rfl rfl ?_
    intro b2
    refine RL.storeW Try.sizeOf35 rfl rfl rfl rfl rfl rfl rfl (by first | rfl | exact ones_map one8 _ | exact ones_map (fun _ => rfl) _) (by repeat (first | exact Upd.here | apply Upd.there)) (by first | rfl | assumption | (simp only [List.length_map]; assumption) | (simp only [List.length_map, List.length_replicate, keyM_len]; done) | (simp; done)) (by first | rfl | assumption | (simp only [List.length_map]; assumption) | (simp only [List.length_map, List.length_replicate, keyM_len]; done) | (simp; done)) ?_
    refine RL.assign rfl rfl rfl rfl ?_
    refine RL.nil ?_
    refine NQ.seq ?_
    refine CW.only (.cons (k := 0) rfl (.cons (k := 1) rfl (.cons (k := 2) rfl (.cons (k := 3) rfl (.cons (k := 9) rfl (.cons (k := 10) rfl (.cons (k := 11) rfl (.cons (k := 12) rfl (.cons (k := 13) rfl (.cons (k := 15) rfl .nil)))))))))) ?_
    refine CW.seq ?_
    refine CW.region (ef := [9, 10]) (bk := [10]) ?_
    refine RL.move rfl rfl rfl rfl ?_
    refine RL.move rfl rfl rfl rfl ?_
    refine RL.move rfl rfl rfl rfl ?_
    -- STOP: op; op 3: d=73 ["binOp", "Go.BinOp.add", 31, ["t", 72], ["c", ["int", "Go.IntKind.u32", 1]], 31] guard=None (law.go:84)
    refine RL.bin rfl rfl rfl rfl rfl rfl ?_
    refine RL.move rfl rfl rfl rfl ?_
    -- STOP: op; op 5: d=75 ["call", ["f", 18], [["t", 70], ["t", 71], ["t", 73], ["t", 74]], [24, 3, 31, 3]] guard=None (law.go:84)
    rw [hw1]
    refine RL.callv (key_any r m1 m2 T' c' (s : Int) e1 (t : Int) hA'.t hK' hlt1) Try.call18 rfl rfl rfl rfl (by repeat (first | exact Lend.nil | (refine Lend.inI ?_ ?_; (solve | (repeat (first | exact List.Mem.head _ | apply List.Mem.tail)))) | (refine Lend.inH ?_ ?_; (solve | (repeat (first | exact List.Mem.head _ | apply List.Mem.tail)))))) ?_
    refine RL.move rfl rfl rfl rfl ?_
    refine RL.extract rfl rfl rfl rfl rfl ?_
    refine RL.extract rfl rfl rfl rfl rfl ?_
    refine RL.alloc (cs := List.replicate 32 (U8 0#8)) Try.zeroValue35 rfl rfl rfl rfl rfl ?_
    intro b3
    refine RL.storeW Try.sizeOf35 rfl rfl rfl rfl rfl rfl rfl (by first | rfl | exact ones_map one8 _ | exact ones_map (fun _ => rfl) _) (by repeat (first | exact Upd.here | apply Upd.there)) (by first | rfl | assumption | (simp only [List.length_map]; assumption) | (simp only [List.length_map, List.length_replicate, keyM_len]; done) | (simp; done)) (by first | rfl | assumption | (simp only [List.length_map]; assumption) | (simp only [List.length_map, List.length_replicate, keyM_len]; done) | (simp; done)) ?_
    refine RL.assign rfl rfl rfl rfl ?_
    refine RL.nil ?_
    refine NQ.seq ?_
    refine CW.only (.cons (k := 0) rfl (.cons (k := 1) rfl (.cons (k := 2) rfl (.cons (k := 3) rfl (.cons (k := 9) rfl (.cons (k := 10) rfl (.cons (k := 11) rfl (.cons (k := 12) rfl (.cons (k := 13) rfl (.cons (k := 15) rfl (.cons (k := 17) rfl .nil))))))))))) ?_
    refine CW.seq ?_
    refine CW.seq ?_
    refine CW.region (ef := []) (bk := []) ?_
    refine RL.move rfl rfl rfl rfl ?_
    refine RL.bin rfl rfl rfl rfl rfl rfl ?_
    refine RL.move rfl rfl rfl rfl ?_
    apply RL.orB (d := 80) (dp := 83) (l' := (Sq.of [6, 7, 8, 9, 10])) rfl (.cons (k := 0) rfl (.cons (k := 1) rfl (.cons (k := 2) rfl (.cons (k := 3) rfl (.cons (k := 9) rfl (.cons (k := 10) rfl (.cons (k := 11) rfl (.cons (k := 12) rfl (.cons (k := 13) rfl .nil)))))))))
    ·
      intro hb3 K3
      refine RL.move rfl rfl rfl rfl ?_
      refine RL.bin rfl rfl rfl rfl rfl rfl ?_
      refine RL.pickF rfl rfl rfl rfl rfl ?_
      exact K3 _ (.cons rfl (.cons (k := 0) rfl (.cons (k := 1) rfl (.cons (k := 2) rfl (.cons (k := 3) rfl (.cons (k := 9) rfl (.cons (k := 10) rfl (.cons (k := 11) rfl (.cons (k := 12) rfl (.cons (k := 13) rfl .nil))))))))))
    ·
      intro hb3 K3
      refine RL.skip rfl rfl rfl rfl ?_
      refine RL.skip rfl rfl rfl rfl ?_
      refine RL.pickT rfl rfl rfl rfl rfl ?_
      exact K3 _ (.cons rfl (.cons (k := 0) rfl (.cons (k := 1) rfl (.cons (k := 2) rfl (.cons (k := 3) rfl (.cons (k := 9) rfl (.cons (k := 10) rfl (.cons (k := 11) rfl (.cons (k := 12) rfl (.cons (k := 13) rfl .nil))))))))))
    refine RL.move rfl rfl rfl rfl ?_
    apply RL.orB (d := 84) (dp := 88) (l' := (Sq.of [])) rfl (.cons (k := 0) rfl (.cons (k := 1) rfl (.cons (k := 2) rfl (.cons (k := 3) rfl (.cons (k := 9) rfl (.cons (k := 10) rfl (.cons (k := 11) rfl (.cons (k := 12) rfl (.cons (k := 13) rfl .nil)))))))))
    ·
      intro hb7 K7
      refine RL.move rfl rfl rfl rfl ?_
      refine RL.move rfl rfl rfl rfl ?_
      refine RL.bin rfl rfl rfl rfl rfl rfl ?_
      refine RL.pickF rfl rfl rfl rfl rfl ?_
      exact K7 _ (.cons rfl (.cons (k := 0) rfl (.cons (k := 1) rfl (.cons (k := 2) rfl (.cons (k := 3) rfl (.cons (k := 9) rfl (.cons (k := 10) rfl (.cons (k := 11) rfl (.cons (k := 12) rfl (.cons (k := 13) rfl .nil))))))))))
    ·
      intro hb7 K7
      refine RL.skip rfl rfl rfl rfl ?_
      refine RL.skip rfl rfl rfl rfl ?_
      refine RL.skip rfl rfl rfl rfl ?_
      refine RL.pickT rfl rfl rfl rfl rfl ?_
      exact K7 _ (.cons rfl (.cons (k := 0) rfl (.cons (k := 1) rfl (.cons (k := 2) rfl (.cons (k := 3) rfl (.cons (k := 9) rfl (.cons (k := 10) rfl (.cons (k := 11) rfl (.cons (k := 12) rfl (.cons (k := 13) rfl .nil))))))))))
    refine RL.nil ?_
    refine NQ.seq ?_
    -- STOP: if; todo top: ["code", ["cond", ["t", 88], ["seq", ["region", 16, [{"d": 8, "op": ["assign", ["c", ["bool", false]]], "ty": 4, "pos": "law.go:86", "after": [], "guard": null}], false], ["ret"]], ["skip"]]]
    refine CW.condF rfl ((by rw [keyM_of htk hmay ho', keyM_of htk hmay ho', goes_now, goes_next he2 hnx]; simp; omega)) ?_
    refine CW.skip ?_
    refine NQ.seq ?_
    refine CW.seq ?_
    refine CW.seq ?_
    refine CW.region (ef := []) (bk := []) ?_
    refine RL.move rfl rfl rfl rfl ?_
    refine RL.bin rfl rfl rfl rfl rfl rfl ?_
    refine RL.nil ?_
    refine NQ.seq ?_
    -- STOP: if; todo top: ["code", ["cond", ["t", 90], ["seq", ["region", 18, [{"d": 92, "op": ["move", ["t", 9]], "ty": 24, "pos": "law.go:89", "after": [], "guard": null}, {"d": 93, "op": ["move", ["t", 1]], "ty": 3, "pos": 
    have hb1 : IntKind.u32.wrap ((o'.e : Int) - 1) = ((o'.e - 1 : Nat) : Int) := u32_back (k := 1) he2 he1
    refine CW.cond rfl (fun h2 => ?_) (fun h2 => ?_)
    ·
      have h2 : 2 < o'.e := by simp at h2; omega
      have hb2 : IntKind.u32.wrap ((o'.e : Int) - 2) = ((o'.e - 2 : Nat) : Int) := u32_back (k := 2) he2 (by omega)
      refine CW.seq ?_
      refine CW.region (ef := [9, 10]) (bk := [10]) ?_
      refine RL.move rfl rfl rfl rfl ?_
      refine RL.move rfl rfl rfl rfl ?_
      refine RL.move rfl rfl rfl rfl ?_
      -- STOP: op; op 3: d=95 ["binOp", "Go.BinOp.sub", 31, ["t", 94], ["c", ["int", "Go.IntKind.u32", 2]], 31] guard=None (law.go:89)
      refine RL.bin rfl rfl rfl rfl rfl rfl ?_
      refine RL.move rfl rfl rfl rfl ?_
      -- STOP: op; op 5: d=97 ["call", ["f", 18], [["t", 92], ["t", 93], ["t", 95], ["t", 96]], [24, 3, 31, 3]] guard=None (law.go:89)
      rw [hb2]
      refine RL.callv (key_any r m1 m2 T' c' (s : Int) (o'.e - 2) (t : Int) hA'.t hK' (by omega)) Try.call18 rfl rfl rfl rfl (by repeat (first | exact Lend.nil | (refine Lend.inI ?_ ?_; (solve | (repeat (first | exact List.Mem.head _ | apply List.Mem.tail)))) | (refine Lend.inH ?_ ?_; (solve | (repeat (first | exact List.Mem.head _ | apply List.Mem.tail)))))) ?_
      refine RL.move rfl rfl rfl rfl ?_
      refine RL.extract rfl rfl rfl rfl rfl ?_
      refine RL.extract rfl rfl rfl rfl rfl ?_
      refine RL.alloc (cs := List.replicate 32 (U8 0#8)) Try.zeroValue35 rfl rfl rfl rfl rfl ?_
      intro b4
      refine RL.storeW Try.sizeOf35 rfl rfl rfl rfl rfl rfl rfl (by first | rfl | exact ones_map one8 _ | exact ones_map (fun _ => rfl) _) (by repeat (first | exact Upd.here | apply Upd.there)) (by first | rfl | assumption | (simp only [List.length_map]; assumption) | (simp only [List.length_map, List.length_replicate, keyM_len]; done) | (simp; done)) (by first | rfl | assumption | (simp only [List.length_map]; assumption) | (simp only [List.length_map, List.length_replicate, keyM_len]; done) | (simp; done)) ?_
      refine RL.assign rfl rfl rfl rfl ?_
      refine RL.nil ?_
      refine NQ.seq ?_
      refine CW.only (.cons (k := 0) rfl (.cons (k := 1) rfl (.cons (k := 2) rfl (.cons (k := 3) rfl (.cons (k := 9) rfl (.cons (k := 10) rfl (.cons (k := 11) rfl (.cons (k := 12) rfl (.cons (k := 13) rfl (.cons (k := 19) rfl .nil)))))))))) ?_
      refine CW.seq ?_
      refine CW.region (ef := []) (bk := []) ?_
      refine RL.move rfl rfl rfl rfl ?_
      refine RL.bin rfl rfl rfl rfl rfl rfl ?_
      refine RL.nil ?_
      refine NQ.seq ?_
      -- STOP: if; todo top: ["code", ["cond", ["t", 101], ["seq", ["region", 20, [{"d": 8, "op": ["assign", ["c", ["bool", false]]], "ty": 4, "pos": "law.go:90", "after": [], "guard": null}], false], ["ret"]], ["skip"]]]
      refine CW.condF rfl (by rw [keyM_of htk hmay ho', goes_two (by omega)]; simp) ?_
      refine CW.skip ?_
      refine NQ.seq ?_
      refine CW.seq ?_
      refine CW.region (ef := [9, 10]) (bk := [10]) ?_
      refine RL.move rfl rfl rfl rfl ?_
      refine RL.move rfl rfl rfl rfl ?_
      refine RL.move rfl rfl rfl rfl ?_
      -- STOP: op; op 3: d=106 ["binOp", "Go.BinOp.sub", 31, ["t", 105], ["c", ["int", "Go.IntKind.u32", 1]], 31] guard=None (law.go:93)
      refine RL.bin rfl rfl rfl rfl rfl rfl ?_
      refine RL.move rfl rfl rfl rfl ?_
      -- STOP: op; op 5: d=108 ["call", ["f", 18], [["t", 103], ["t", 104], ["t", 106], ["t", 107]], [24, 3, 31, 3]] guard=None (law.go:93)
      rw [hb1]
      refine RL.callv (key_any r m1 m2 T' c' (s : Int) (o'.e - 1) (t : Int) hA'.t hK' (by omega)) Try.call18 rfl rfl rfl rfl (by repeat (first | exact Lend.nil | (refine Lend.inI ?_ ?_; (solve | (repeat (first | exact List.Mem.head _ | apply List.Mem.tail)))) | (refine Lend.inH ?_ ?_; (solve | (repeat (first | exact List.Mem.head _ | apply List.Mem.tail)))))) ?_
      refine RL.move rfl rfl rfl rfl ?_
      refine RL.extract rfl rfl rfl rfl rfl ?_
      refine RL.extract rfl rfl rfl rfl rfl ?_
      refine RL.alloc (cs := List.replicate 32 (U8 0#8)) Try.zeroValue35 rfl rfl rfl rfl rfl ?_
      intro b5
      refine RL.storeW Try.sizeOf35 rfl rfl rfl rfl rfl rfl rfl (by first | rfl | exact ones_map one8 _ | exact ones_map (fun _ => rfl) _) (by repeat (first | exact Upd.here | apply Upd.there)) (by first | rfl | assumption | (simp only [List.length_map]; assumption) | (simp only [List.length_map, List.length_replicate, keyM_len]; done) | (simp; done)) (by first | rfl | assumption | (simp only [List.length_map]; assumption) | (simp only [List.length_map, List.length_replicate, keyM_len]; done) | (simp; done)) ?_
      refine RL.assign rfl rfl rfl rfl ?_
      refine RL.nil ?_
      refine NQ.seq ?_
      refine CW.only (.cons (k := 0) rfl (.cons (k := 1) rfl (.cons (k := 2) rfl (.cons (k := 3) rfl (.cons (k := 9) rfl (.cons (k := 10) rfl (.cons (k := 12) rfl (.cons (k := 13) rfl (.cons (k := 21) rfl .nil))))))))) ?_
      refine CW.seq ?_
      refine CW.region (ef := [12, 13]) (bk := [13]) ?_
      refine RL.move rfl rfl rfl rfl ?_
      refine RL.move rfl rfl rfl rfl ?_
      refine RL.move rfl rfl rfl rfl ?_
      -- STOP: op; op 3: d=115 ["binOp", "Go.BinOp.sub", 31, ["t", 114], ["c", ["int", "Go.IntKind.u32", 1]], 31] guard=None (law.go:94)
      refine RL.bin rfl rfl rfl rfl rfl rfl ?_
      refine RL.move rfl rfl rfl rfl ?_
      refine RL.move rfl rfl rfl rfl ?_
      refine RL.callv (among_any later 100000 (by omega) (by omega)) Try.call13 rfl rfl rfl rfl (by repeat (first | exact Lend.nil | (refine Lend.inI ?_ ?_; (solve | (repeat (first | exact List.Mem.head _ | apply List.Mem.tail)))) | (refine Lend.inH ?_ ?_; (solve | (repeat (first | exact List.Mem.head _ | apply List.Mem.tail)))))) ?_
      refine RL.bin rfl rfl rfl rfl rfl rfl ?_
      -- STOP: op; op 8: d=120 ["call", ["f", 18], [["t", 112], ["t", 113], ["t", 115], ["t", 119]], [24, 3, 31, 3]] guard=None (law.go:94)
      rw [hb1, IntWalk.i64_in ((t : Int) + (amongN later 100000 : Int)) (by omega)]
      refine RL.callv (key_any r m1 m2 T' c' (s : Int) (o'.e - 1) ((t : Int) + (amongN later 100000 : Int)) hA'.t hK' (by omega)) Try.call18 rfl rfl rfl rfl (by repeat (first | exact Lend.nil | (refine Lend.inI ?_ ?_; (solve | (repeat (first | exact List.Mem.head _ | apply List.Mem.tail)))) | (refine Lend.inH ?_ ?_; (solve | (repeat (first | exact List.Mem.head _ | apply List.Mem.tail)))))) ?_
      refine RL.move rfl rfl rfl rfl ?_
      refine RL.extract rfl rfl rfl rfl rfl ?_
      refine RL.extract rfl rfl rfl rfl rfl ?_
      refine RL.alloc (cs := List.replicate 32 (U8 0#8)) Try.zeroValue35 rfl rfl rfl rfl rfl ?_
      intro b6
      refine RL.storeW Try.sizeOf35 rfl rfl rfl rfl rfl rfl rfl (by first | rfl | exact ones_map one8 _ | exact ones_map (fun _ => rfl) _) (by repeat (first | exact Upd.here | apply Upd.there)) (by first | rfl | assumption | (simp only [List.length_map]; assumption) | (simp only [List.length_map, List.length_replicate, keyM_len]; done) | (simp; done)) (by first | rfl | assumption | (simp only [List.length_map]; assumption) | (simp only [List.length_map, List.length_replicate, keyM_len]; done) | (simp; done)) ?_
      refine RL.assign rfl rfl rfl rfl ?_
      refine RL.nil ?_
      refine NQ.seq ?_
      refine CW.only (.cons (k := 0) rfl (.cons (k := 1) rfl (.cons (k := 2) rfl (.cons (k := 3) rfl (.cons (k := 9) rfl (.cons (k := 10) rfl (.cons (k := 12) rfl (.cons (k := 13) rfl (.cons (k := 21) rfl (.cons (k := 23) rfl .nil)))))))))) ?_
      refine CW.seq ?_
      refine CW.seq ?_
      refine CW.region (ef := []) (bk := []) ?_
      refine RL.move rfl rfl rfl rfl ?_
      refine RL.bin rfl rfl rfl rfl rfl rfl ?_
      refine RL.move rfl rfl rfl rfl ?_
      apply RL.andB (d := 125) (dp := 128) (l' := (Sq.of [6, 7, 8, 9, 10, 11, 12, 13])) rfl (.cons (k := 0) rfl (.cons (k := 1) rfl (.cons (k := 2) rfl (.cons (k := 3) rfl (.cons (k := 9) rfl (.cons (k := 10) rfl (.cons (k := 12) rfl (.cons (k := 13) rfl (.cons (k := 21) rfl .nil)))))))))
      ·
        intro hb3 K3
        refine RL.move rfl rfl rfl rfl ?_
        refine RL.bin rfl rfl rfl rfl rfl rfl ?_
        refine RL.pickT rfl rfl rfl rfl rfl ?_
        exact K3 _ (.cons rfl (.cons (k := 0) rfl (.cons (k := 1) rfl (.cons (k := 2) rfl (.cons (k := 3) rfl (.cons (k := 9) rfl (.cons (k := 10) rfl (.cons (k := 12) rfl (.cons (k := 13) rfl (.cons (k := 21) rfl .nil))))))))))
      ·
        intro hb3 K3
        refine RL.skip rfl rfl rfl rfl ?_
        refine RL.skip rfl rfl rfl rfl ?_
        refine RL.pickF rfl rfl rfl rfl rfl ?_
        exact K3 _ (.cons rfl (.cons (k := 0) rfl (.cons (k := 1) rfl (.cons (k := 2) rfl (.cons (k := 3) rfl (.cons (k := 9) rfl (.cons (k := 10) rfl (.cons (k := 12) rfl (.cons (k := 13) rfl (.cons (k := 21) rfl .nil))))))))))
      refine RL.move rfl rfl rfl rfl ?_
      apply RL.orB (d := 129) (dp := 136) (l' := (Sq.of [])) rfl (.cons (k := 0) rfl (.cons (k := 1) rfl (.cons (k := 2) rfl (.cons (k := 3) rfl (.cons (k := 9) rfl (.cons (k := 10) rfl (.cons (k := 12) rfl (.cons (k := 13) rfl .nil))))))))
      ·
        intro hb7 K7
        refine RL.move rfl rfl rfl rfl ?_
        refine RL.bin rfl rfl rfl rfl rfl rfl ?_
        refine RL.move rfl rfl rfl rfl ?_
        apply RL.andB (d := 132) (dp := 135) (l' := (Sq.of [13])) rfl (.cons (k := 0) rfl (.cons (k := 1) rfl (.cons (k := 2) rfl (.cons (k := 3) rfl (.cons (k := 9) rfl (.cons (k := 10) rfl (.cons (k := 12) rfl (.cons (k := 13) rfl (.cons (k := 129) rfl .nil)))))))))
        ·
          intro hb10 K10
          refine RL.move rfl rfl rfl rfl ?_
          refine RL.bin rfl rfl rfl rfl rfl rfl ?_
          refine RL.pickT rfl rfl rfl rfl rfl ?_
          exact K10 _ (.cons rfl (.cons (k := 0) rfl (.cons (k := 1) rfl (.cons (k := 2) rfl (.cons (k := 3) rfl (.cons (k := 9) rfl (.cons (k := 10) rfl (.cons (k := 12) rfl (.cons (k := 13) rfl (.cons (k := 129) rfl .nil))))))))))
        ·
          intro hb10 K10
          refine RL.skip rfl rfl rfl rfl ?_
          refine RL.skip rfl rfl rfl rfl ?_
          refine RL.pickF rfl rfl rfl rfl rfl ?_
          exact K10 _ (.cons rfl (.cons (k := 0) rfl (.cons (k := 1) rfl (.cons (k := 2) rfl (.cons (k := 3) rfl (.cons (k := 9) rfl (.cons (k := 10) rfl (.cons (k := 12) rfl (.cons (k := 13) rfl (.cons (k := 129) rfl .nil))))))))))
        refine RL.pickF rfl rfl rfl rfl rfl ?_
        exact K7 _ (.cons rfl (.cons (k := 0) rfl (.cons (k := 1) rfl (.cons (k := 2) rfl (.cons (k := 3) rfl (.cons (k := 9) rfl (.cons (k := 10) rfl (.cons (k := 12) rfl (.cons (k := 13) rfl .nil)))))))))
      ·
        intro hb7 K7
        refine RL.skip rfl rfl rfl rfl ?_
        refine RL.skip rfl rfl rfl rfl ?_
        refine RL.skip rfl rfl rfl rfl ?_
        refine RL.skip rfl rfl rfl rfl ?_
        refine RL.skip rfl rfl rfl rfl ?_
        refine RL.skip rfl rfl rfl rfl ?_
        refine RL.pickT rfl rfl rfl rfl rfl ?_
        exact K7 _ (.cons rfl (.cons (k := 0) rfl (.cons (k := 1) rfl (.cons (k := 2) rfl (.cons (k := 3) rfl (.cons (k := 9) rfl (.cons (k := 10) rfl (.cons (k := 12) rfl (.cons (k := 13) rfl .nil)))))))))
      refine RL.nil ?_
      refine NQ.seq ?_
      -- STOP: if; todo top: ["code", ["cond", ["t", 136], ["seq", ["region", 24, [{"d": 8, "op": ["assign", ["c", ["bool", false]]], "ty": 4, "pos": "law.go:96", "after": [], "guard": null}], false], ["ret"]], ["skip"]]]
      have htk2 : tickB ((t : Int) + (amongN later 100000 : Int)) = true := by simp [tickB]; omega
      have hn1 : (keyM T' (s : Int) (o'.e - 1) (t : Int)).2 = 0 ∨ (keyM T' (s : Int) (o'.e - 1) ((t : Int) + (amongN later 100000 : Int))).2 ≠ 0 := by
        rw [keyM_of htk hmay ho', keyM_of htk2 hmay ho']
        by_cases hg : goesB o' (o'.e - 1) ((t : Int) + (amongN later 100000 : Int)) = true
        · rw [if_pos (goes_later (by omega) (by omega) hg)]; exact .inl rfl
        · rw [if_neg hg]; exact .inr (by decide)
      have hn2 : o'.e = 1 → (keyM T' (s : Int) (o'.e - 1) (t : Int)).2 ≠ 0 := fun e => by
        rw [keyM_of htk hmay ho', show o'.e - 1 = 0 by omega, goes_one e (hA'.g1 o' (atO_mem ho').1 e)]; decide
      refine CW.condF rfl ((by simp; omega)) ?_
      refine CW.skip ?_
      refine NQ.seq ?_
      refine CW.region (ef := []) (bk := []) ?_
      refine RL.move rfl rfl rfl rfl ?_
      refine RL.assign rfl rfl rfl rfl ?_
      refine RL.nil ?_
      refine NQ.block ?_
      refine NQ.seq ?_
      refine CW.region (ef := []) (bk := []) ?_
      refine RL.move rfl rfl rfl rfl ?_
      refine RL.binX rfl rfl rfl rfl rfl rfl (wrapV_i64 (by omega) (by omega)) ?_
      refine RL.assign rfl rfl rfl rfl ?_
      refine RL.nil ?_
      -- STOP: round; todo top: ["N"]
      refine NQ.round (γ := KG) (g := (⟨i, T, c, R, ob, cp, was⟩ : KG)) (⟨i + 1, T', c', R', ob', cp', o'.e⟩ : KG) ⟨hA', hK', o', ho', Nat.le_refl _⟩ (by show L.length - (i + 1) < L.length - i; omega) (.cons rfl (.cons rfl (.cons rfl (.cons rfl (.cons rfl (.cons rfl (.cons rfl (.cons rfl .nil)))))))) (fun w h => h.rea (fun _ h => h) (by repeat (first | exact Rea.nil | (apply Rea.cons; (solve | (repeat (first | exact Del.here | apply Del.there)))))))
    ·
      refine CW.skip ?_
      refine NQ.seq ?_
      refine CW.seq ?_
      refine CW.region (ef := [9, 10]) (bk := [10]) ?_
      refine RL.move rfl rfl rfl rfl ?_
      refine RL.move rfl rfl rfl rfl ?_
      refine RL.move rfl rfl rfl rfl ?_
      -- STOP: op; op 3: d=106 ["binOp", "Go.BinOp.sub", 31, ["t", 105], ["c", ["int", "Go.IntKind.u32", 1]], 31] guard=None (law.go:93)
      refine RL.bin rfl rfl rfl rfl rfl rfl ?_
      refine RL.move rfl rfl rfl rfl ?_
      -- STOP: op; op 5: d=108 ["call", ["f", 18], [["t", 103], ["t", 104], ["t", 106], ["t", 107]], [24, 3, 31, 3]] guard=None (law.go:93)
      rw [hb1]
      refine RL.callv (key_any r m1 m2 T' c' (s : Int) (o'.e - 1) (t : Int) hA'.t hK' (by omega)) Try.call18 rfl rfl rfl rfl (by repeat (first | exact Lend.nil | (refine Lend.inI ?_ ?_; (solve | (repeat (first | exact List.Mem.head _ | apply List.Mem.tail)))) | (refine Lend.inH ?_ ?_; (solve | (repeat (first | exact List.Mem.head _ | apply List.Mem.tail)))))) ?_
      refine RL.move rfl rfl rfl rfl ?_
      refine RL.extract rfl rfl rfl rfl rfl ?_
      refine RL.extract rfl rfl rfl rfl rfl ?_
      refine RL.alloc (cs := List.replicate 32 (U8 0#8)) Try.zeroValue35 rfl rfl rfl rfl rfl ?_
      intro b4
      refine RL.storeW Try.sizeOf35 rfl rfl rfl rfl rfl rfl rfl (by first | rfl | exact ones_map one8 _ | exact ones_map (fun _ => rfl) _) (by repeat (first | exact Upd.here | apply Upd.there)) (by first | rfl | assumption | (simp only [List.length_map]; assumption) | (simp only [List.length_map, List.length_replicate, keyM_len]; done) | (simp; done)) (by first | rfl | assumption | (simp only [List.length_map]; assumption) | (simp only [List.length_map, List.length_replicate, keyM_len]; done) | (simp; done)) ?_
      refine RL.assign rfl rfl rfl rfl ?_
      refine RL.nil ?_
      refine NQ.seq ?_
      refine CW.only (.cons (k := 0) rfl (.cons (k := 1) rfl (.cons (k := 2) rfl (.cons (k := 3) rfl (.cons (k := 9) rfl (.cons (k := 10) rfl (.cons (k := 12) rfl (.cons (k := 13) rfl (.cons (k := 21) rfl .nil))))))))) ?_
      refine CW.seq ?_
      refine CW.region (ef := [12, 13]) (bk := [13]) ?_
      refine RL.move rfl rfl rfl rfl ?_
      refine RL.move rfl rfl rfl rfl ?_
      refine RL.move rfl rfl rfl rfl ?_
      -- STOP: op; op 3: d=115 ["binOp", "Go.BinOp.sub", 31, ["t", 114], ["c", ["int", "Go.IntKind.u32", 1]], 31] guard=None (law.go:94)
      refine RL.bin rfl rfl rfl rfl rfl rfl ?_
      refine RL.move rfl rfl rfl rfl ?_
      refine RL.move rfl rfl rfl rfl ?_
      refine RL.callv (among_any later 100000 (by omega) (by omega)) Try.call13 rfl rfl rfl rfl (by repeat (first | exact Lend.nil | (refine Lend.inI ?_ ?_; (solve | (repeat (first | exact List.Mem.head _ | apply List.Mem.tail)))) | (refine Lend.inH ?_ ?_; (solve | (repeat (first | exact List.Mem.head _ | apply List.Mem.tail)))))) ?_
      refine RL.bin rfl rfl rfl rfl rfl rfl ?_
      -- STOP: op; op 8: d=120 ["call", ["f", 18], [["t", 112], ["t", 113], ["t", 115], ["t", 119]], [24, 3, 31, 3]] guard=None (law.go:94)
      rw [hb1, IntWalk.i64_in ((t : Int) + (amongN later 100000 : Int)) (by omega)]
      refine RL.callv (key_any r m1 m2 T' c' (s : Int) (o'.e - 1) ((t : Int) + (amongN later 100000 : Int)) hA'.t hK' (by omega)) Try.call18 rfl rfl rfl rfl (by repeat (first | exact Lend.nil | (refine Lend.inI ?_ ?_; (solve | (repeat (first | exact List.Mem.head _ | apply List.Mem.tail)))) | (refine Lend.inH ?_ ?_; (solve | (repeat (first | exact List.Mem.head _ | apply List.Mem.tail)))))) ?_
      refine RL.move rfl rfl rfl rfl ?_
      refine RL.extract rfl rfl rfl rfl rfl ?_
      refine RL.extract rfl rfl rfl rfl rfl ?_
      refine RL.alloc (cs := List.replicate 32 (U8 0#8)) Try.zeroValue35 rfl rfl rfl rfl rfl ?_
      intro b5
      refine RL.storeW Try.sizeOf35 rfl rfl rfl rfl rfl rfl rfl (by first | rfl | exact ones_map one8 _ | exact ones_map (fun _ => rfl) _) (by repeat (first | exact Upd.here | apply Upd.there)) (by first | rfl | assumption | (simp only [List.length_map]; assumption) | (simp only [List.length_map, List.length_replicate, keyM_len]; done) | (simp; done)) (by first | rfl | assumption | (simp only [List.length_map]; assumption) | (simp only [List.length_map, List.length_replicate, keyM_len]; done) | (simp; done)) ?_
      refine RL.assign rfl rfl rfl rfl ?_
      refine RL.nil ?_
      refine NQ.seq ?_
      refine CW.only (.cons (k := 0) rfl (.cons (k := 1) rfl (.cons (k := 2) rfl (.cons (k := 3) rfl (.cons (k := 9) rfl (.cons (k := 10) rfl (.cons (k := 12) rfl (.cons (k := 13) rfl (.cons (k := 21) rfl (.cons (k := 23) rfl .nil)))))))))) ?_
      refine CW.seq ?_
      refine CW.seq ?_
      refine CW.region (ef := []) (bk := []) ?_
      refine RL.move rfl rfl rfl rfl ?_
      refine RL.bin rfl rfl rfl rfl rfl rfl ?_
      refine RL.move rfl rfl rfl rfl ?_
      apply RL.andB (d := 125) (dp := 128) (l' := (Sq.of [6, 7, 8, 9, 10, 11, 12, 13])) rfl (.cons (k := 0) rfl (.cons (k := 1) rfl (.cons (k := 2) rfl (.cons (k := 3) rfl (.cons (k := 9) rfl (.cons (k := 10) rfl (.cons (k := 12) rfl (.cons (k := 13) rfl (.cons (k := 21) rfl .nil)))))))))
      ·
        intro hb3 K3
        refine RL.move rfl rfl rfl rfl ?_
        refine RL.bin rfl rfl rfl rfl rfl rfl ?_
        refine RL.pickT rfl rfl rfl rfl rfl ?_
        exact K3 _ (.cons rfl (.cons (k := 0) rfl (.cons (k := 1) rfl (.cons (k := 2) rfl (.cons (k := 3) rfl (.cons (k := 9) rfl (.cons (k := 10) rfl (.cons (k := 12) rfl (.cons (k := 13) rfl (.cons (k := 21) rfl .nil))))))))))
      ·
        intro hb3 K3
        refine RL.skip rfl rfl rfl rfl ?_
        refine RL.skip rfl rfl rfl rfl ?_
        refine RL.pickF rfl rfl rfl rfl rfl ?_
        exact K3 _ (.cons rfl (.cons (k := 0) rfl (.cons (k := 1) rfl (.cons (k := 2) rfl (.cons (k := 3) rfl (.cons (k := 9) rfl (.cons (k := 10) rfl (.cons (k := 12) rfl (.cons (k := 13) rfl (.cons (k := 21) rfl .nil))))))))))
      refine RL.move rfl rfl rfl rfl ?_
      apply RL.orB (d := 129) (dp := 136) (l' := (Sq.of [])) rfl (.cons (k := 0) rfl (.cons (k := 1) rfl (.cons (k := 2) rfl (.cons (k := 3) rfl (.cons (k := 9) rfl (.cons (k := 10) rfl (.cons (k := 12) rfl (.cons (k := 13) rfl .nil))))))))
      ·
        intro hb7 K7
        refine RL.move rfl rfl rfl rfl ?_
        refine RL.bin rfl rfl rfl rfl rfl rfl ?_
        refine RL.move rfl rfl rfl rfl ?_
        apply RL.andB (d := 132) (dp := 135) (l' := (Sq.of [13])) rfl (.cons (k := 0) rfl (.cons (k := 1) rfl (.cons (k := 2) rfl (.cons (k := 3) rfl (.cons (k := 9) rfl (.cons (k := 10) rfl (.cons (k := 12) rfl (.cons (k := 13) rfl (.cons (k := 129) rfl .nil)))))))))
        ·
          intro hb10 K10
          refine RL.move rfl rfl rfl rfl ?_
          refine RL.bin rfl rfl rfl rfl rfl rfl ?_
          refine RL.pickT rfl rfl rfl rfl rfl ?_
          exact K10 _ (.cons rfl (.cons (k := 0) rfl (.cons (k := 1) rfl (.cons (k := 2) rfl (.cons (k := 3) rfl (.cons (k := 9) rfl (.cons (k := 10) rfl (.cons (k := 12) rfl (.cons (k := 13) rfl (.cons (k := 129) rfl .nil))))))))))
        ·
          intro hb10 K10
          refine RL.skip rfl rfl rfl rfl ?_
          refine RL.skip rfl rfl rfl rfl ?_
          refine RL.pickF rfl rfl rfl rfl rfl ?_
          exact K10 _ (.cons rfl (.cons (k := 0) rfl (.cons (k := 1) rfl (.cons (k := 2) rfl (.cons (k := 3) rfl (.cons (k := 9) rfl (.cons (k := 10) rfl (.cons (k := 12) rfl (.cons (k := 13) rfl (.cons (k := 129) rfl .nil))))))))))
        refine RL.pickF rfl rfl rfl rfl rfl ?_
        exact K7 _ (.cons rfl (.cons (k := 0) rfl (.cons (k := 1) rfl (.cons (k := 2) rfl (.cons (k := 3) rfl (.cons (k := 9) rfl (.cons (k := 10) rfl (.cons (k := 12) rfl (.cons (k := 13) rfl .nil)))))))))
      ·
        intro hb7 K7
        refine RL.skip rfl rfl rfl rfl ?_
        refine RL.skip rfl rfl rfl rfl ?_
        refine RL.skip rfl rfl rfl rfl ?_
        refine RL.skip rfl rfl rfl rfl ?_
        refine RL.skip rfl rfl rfl rfl ?_
        refine RL.skip rfl rfl rfl rfl ?_
        refine RL.pickT rfl rfl rfl rfl rfl ?_
        exact K7 _ (.cons rfl (.cons (k := 0) rfl (.cons (k := 1) rfl (.cons (k := 2) rfl (.cons (k := 3) rfl (.cons (k := 9) rfl (.cons (k := 10) rfl (.cons (k := 12) rfl (.cons (k := 13) rfl .nil)))))))))
      refine RL.nil ?_
      refine NQ.seq ?_
      -- STOP: if; todo top: ["code", ["cond", ["t", 136], ["seq", ["region", 24, [{"d": 8, "op": ["assign", ["c", ["bool", false]]], "ty": 4, "pos": "law.go:96", "after": [], "guard": null}], false], ["ret"]], ["skip"]]]
      have htk2 : tickB ((t : Int) + (amongN later 100000 : Int)) = true := by simp [tickB]; omega
      have hn1 : (keyM T' (s : Int) (o'.e - 1) (t : Int)).2 = 0 ∨ (keyM T' (s : Int) (o'.e - 1) ((t : Int) + (amongN later 100000 : Int))).2 ≠ 0 := by
        rw [keyM_of htk hmay ho', keyM_of htk2 hmay ho']
        by_cases hg : goesB o' (o'.e - 1) ((t : Int) + (amongN later 100000 : Int)) = true
        · rw [if_pos (goes_later (by omega) (by omega) hg)]; exact .inl rfl
        · rw [if_neg hg]; exact .inr (by decide)
      have hn2 : o'.e = 1 → (keyM T' (s : Int) (o'.e - 1) (t : Int)).2 ≠ 0 := fun e => by
        rw [keyM_of htk hmay ho', show o'.e - 1 = 0 by omega, goes_one e (hA'.g1 o' (atO_mem ho').1 e)]; decide
      refine CW.condF rfl ((by simp; omega)) ?_
      refine CW.skip ?_
      refine NQ.seq ?_
      refine CW.region (ef := []) (bk := []) ?_
      refine RL.move rfl rfl rfl rfl ?_
      refine RL.assign rfl rfl rfl rfl ?_
      refine RL.nil ?_
      refine NQ.block ?_
      refine NQ.seq ?_
      refine CW.region (ef := []) (bk := []) ?_
      refine RL.move rfl rfl rfl rfl ?_
      refine RL.binX rfl rfl rfl rfl rfl rfl (wrapV_i64 (by omega) (by omega)) ?_
      refine RL.assign rfl rfl rfl rfl ?_
      refine RL.nil ?_
      -- STOP: round; todo top: ["N"]
      refine NQ.round (γ := KG) (g := (⟨i, T, c, R, ob, cp, was⟩ : KG)) (⟨i + 1, T', c', R', ob', cp', o'.e⟩ : KG) ⟨hA', hK', o', ho', Nat.le_refl _⟩ (by show L.length - (i + 1) < L.length - i; omega) (.cons rfl (.cons rfl (.cons rfl (.cons rfl (.cons rfl (.cons rfl (.cons rfl (.cons rfl .nil)))))))) (fun w h => h.rea (fun _ h => h) (by repeat (first | exact Rea.nil | (apply Rea.cons; (solve | (repeat (first | exact Del.here | apply Del.there)))))))
  ·
    refine CW.exit ?_
    refine XQ.seq ?_
    refine XQ.seq ?_
    refine XQ.hit ?_
    refine NQ.seq ?_
    refine CW.only .nil ?_
    refine CW.seq ?_
    refine CW.region (ef := []) (bk := []) ?_
    refine RL.assign rfl rfl rfl rfl ?_
    refine RL.nil ?_
    refine NQ.seq ?_
    refine CW.ret ?_
    -- STOP: ret; end
    exact RQ.post (res1 rfl rfl) (Split.none _) ⟨rfl, rfl, rfl⟩
end Go.Proofs.Ytkkfdoippibfkaa
