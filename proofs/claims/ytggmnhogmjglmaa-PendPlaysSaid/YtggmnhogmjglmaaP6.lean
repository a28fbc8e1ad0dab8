import Derived.Test.YtggmnhogmjglmaaP5
import Derived.Test.YtggmnhogmjglmaaAmong
namespace Go.Proofs.Ytggmnhogmjglmaa
open Go.PK
instance (a b : Pq) : Decidable (ltQ a b) := inferInstanceAs (Decidable (_ ∨ _))
theorem ahead_any (a b : Pq) : Spc Try.prog 12 #[.agg #[.int .u32 a.1, .int .u8 a.2], .agg #[.int .u32 b.1, .int .u8 b.2]] [] [] (Is (.bool (decide (ltQ a b)))) := by
  refine Spc.enter Try.func12 rfl rfl rfl (fun w0 hw0 => ?_)
  refine CW.seq ?_
  refine CW.region (ef := [0, 1]) (bk := []) ?_
  refine RL.box rfl rfl rfl rfl rfl rfl ?_
  intro b1
  refine RL.box rfl rfl rfl rfl rfl rfl ?_
  intro b2
  refine RL.assign rfl rfl rfl rfl ?_
  refine RL.nil ?_
  refine NQ.seq ?_
  refine CW.seq ?_
  refine CW.region (ef := []) (bk := []) ?_
  refine RL.fieldAddr fa_43_0 rfl rfl rfl rfl ?_
  refine RL.loadq Try.isAgg26 rfl rfl rfl rfl ?_
  refine RL.fieldAddr fa_43_0 rfl rfl rfl rfl ?_
  refine RL.loadq Try.isAgg26 rfl rfl rfl rfl ?_
  refine RL.bin rfl rfl rfl rfl rfl rfl ?_
  refine RL.move rfl rfl rfl rfl ?_
  apply RL.orB (d := 10) (dp := 23) (l' := (Sq.of [19])) rfl (.cons (k := 4) rfl .nil)
  ·
    intro hb6 K6
    refine RL.fieldAddr fa_43_0 rfl rfl rfl rfl ?_
    refine RL.loadq Try.isAgg26 rfl rfl rfl rfl ?_
    refine RL.fieldAddr fa_43_0 rfl rfl rfl rfl ?_
    refine RL.loadq Try.isAgg26 rfl rfl rfl rfl ?_
    refine RL.bin rfl rfl rfl rfl rfl rfl ?_
    refine RL.move rfl rfl rfl rfl ?_
    apply RL.andB (d := 16) (dp := 22) (l' := (Sq.of [18, 19])) rfl (.cons (k := 4) rfl (.cons (k := 10) rfl .nil))
    ·
      intro hb12 K12
      refine RL.fieldAddr fa_43_1 rfl rfl rfl rfl ?_
      refine RL.loadq Try.isAgg5 rfl rfl rfl rfl ?_
      refine RL.fieldAddr fa_43_1 rfl rfl rfl rfl ?_
      refine RL.loadq Try.isAgg5 rfl rfl rfl rfl ?_
      refine RL.bin rfl rfl rfl rfl rfl rfl ?_
      refine RL.pickT rfl rfl rfl rfl rfl ?_
      exact K12 _ (.cons rfl (.cons (k := 4) rfl (.cons (k := 10) rfl .nil)))
    ·
      intro hb12 K12
      refine RL.skip rfl rfl rfl rfl ?_
      refine RL.skip rfl rfl rfl rfl ?_
      refine RL.skip rfl rfl rfl rfl ?_
      refine RL.skip rfl rfl rfl rfl ?_
      refine RL.skip rfl rfl rfl rfl ?_
      refine RL.pickF rfl rfl rfl rfl rfl ?_
      exact K12 _ (.cons rfl (.cons (k := 4) rfl (.cons (k := 10) rfl .nil)))
    refine RL.pickF rfl rfl rfl rfl rfl ?_
    exact K6 _ (.cons rfl (.cons (k := 4) rfl .nil))
  ·
    intro hb6 K6
    refine RL.skip rfl rfl rfl rfl ?_
    refine RL.skip rfl rfl rfl rfl ?_
    refine RL.skip rfl rfl rfl rfl ?_
    refine RL.skip rfl rfl rfl rfl ?_
    refine RL.skip rfl rfl rfl rfl ?_
    refine RL.skip rfl rfl rfl rfl ?_
    refine RL.skip rfl rfl rfl rfl ?_
    refine RL.skip rfl rfl rfl rfl ?_
    refine RL.skip rfl rfl rfl rfl ?_
    refine RL.skip rfl rfl rfl rfl ?_
    refine RL.skip rfl rfl rfl rfl ?_
    refine RL.skip rfl rfl rfl rfl ?_
    refine RL.pickT rfl rfl rfl rfl rfl ?_
    exact K6 _ (.cons rfl (.cons (k := 4) rfl .nil))
  refine RL.assign rfl rfl rfl rfl ?_
  refine RL.nil ?_
  refine NQ.seq ?_
  refine CW.ret ?_
  refine RQ.post (res1 rfl rfl) (Split.none _) ⟨?_, rfl, rfl⟩
  congr 1
  rw [Bool.eq_iff_iff, decide_eq_true_iff]
  simp [ltQ]
theorem plain_any (a : Pq) : Spc Try.prog 13 #[.agg #[.int .u32 a.1, .int .u8 a.2]] [] [] (Is (.agg #[.int .u32 a.1, .int .u8 a.2])) := by
  refine Spc.enter Try.func13 rfl rfl rfl (fun w0 hw0 => ?_)
  refine CW.seq ?_
  refine CW.region (ef := [0, 1]) (bk := []) ?_
  refine RL.box rfl rfl rfl rfl rfl rfl ?_
  intro b1
  refine RL.alloc Try.zeroValue43 rfl rfl rfl rfl rfl ?_
  intro b2
  refine RL.nil ?_
  refine NQ.seq ?_
  refine CW.seq ?_
  refine CW.region (ef := [5]) (bk := [5]) ?_
  refine RL.fieldAddr fa_28_0 rfl rfl rfl rfl ?_
  refine RL.loadq Try.isAgg26 rfl rfl rfl rfl ?_
  refine RL.fieldAddr fa_28_1 rfl rfl rfl rfl ?_
  refine RL.loadq Try.isAgg5 rfl rfl rfl rfl ?_
  refine RL.buildS [_, _] Try.zeroValue43 pl_43 rfl rfl rfl rfl rfl ?_
  refine RL.store (vs := [_, _]) Try.sizeOf43 rfl rfl rfl rfl rfl rfl rfl rfl rfl (by repeat (first | exact Upd.here | apply Upd.there)) ?_
  refine RL.nil ?_
  refine NQ.seq ?_
  refine CW.only (.cons (k := 2) rfl .nil) ?_
  refine CW.ret ?_
  exact RQ.post (resC rfl rfl Try.isAgg43 (vs := [_, _]) Try.sizeOf43 (Rds.cel (List.Mem.head _) (at_spec ⟨rfl, rfl, trivial⟩))) (Split.none _) ⟨rfl, rfl, rfl⟩
theorem flat20 {L : List Act20} (hL : ∀ x ∈ L, x.Ok) : ∀ x ∈ L, x.cells.length = 24 := fun x hx => act20_len (hL x hx)
theorem act20_rdsN {I : List It} {L : List Act20} {a : Addr} {i : Nat} {x : Act20} (hL : ∀ x ∈ L, x.Ok) (hm : sls (some a) 24 L.length (L.flatMap Act20.cells) ∈ I) (hx : L[i]? = some x) : RdsN I (a.add (i * 24)) 24 x.cells :=
  ⟨fun _ => (Rds.sls hm).part (fun q u hu => by
    have hlt : q < 24 := by have := (List.getElem?_eq_some_iff.1 hu).1; rwa [act20_len (hL x (List.mem_of_getElem? hx))] at this
    rw [get_flat (flat20 hL) hx hlt]; exact hu), act20_len (hL x (List.mem_of_getElem? hx))⟩
theorem its20 {L : List Act20} {x : Act20} {J : List It} (hJ : ∀ y ∈ L.flatMap Act20.its, y ∈ J) (hx : x ∈ L) : sls x.x.p 1 x.x.f.b.length (bytes x.x.f.b) ∈ J := hJ _ (List.mem_flatMap.2 ⟨x, hx, by simp⟩)
theorem Rds.take2 {I H : List It} {p : Addr} {x : Pq × FrO} (h : Rds I H p (itc x)) : Rds I H p [.int .u32 x.1.1, .int .u8 x.1.2] := fun w hw j v hj => h w hw j v (by
  match j, hj with
  | 0, hj => exact hj
  | 1, hj => exact hj
  | j + 2, hj => simp at hj)
/-! ### PendOnce -/
structure OG where
  i : Nat
  c : Bq
  u : Nat
  o : Nat
structure OG.ok (n : Nat) (z : OG) : Prop where
  i : z.i ≤ n
  b : z.i ≤ 60
  k : z.c.length + z.o = z.u
  m : z.c.length ≤ 16
  c : ∀ x ∈ z.c, x.2.Ok ∧ x.1.1 ≤ 4294967295
  u : z.u ≤ z.i
theorem TakeO.lens {c : Bq} {iv : Int} {T c' : Bq} (h : TakeO c iv T c') : T.length + c'.length = c.length := by
  have := h.p.length_eq
  rwa [List.length_append] at this
theorem TakeO.ok {c : Bq} {iv : Int} {T c' : Bq} (h : TakeO c iv T c') {q : Pq × FrO → Prop} (hc : ∀ x ∈ c, q x) : (∀ x ∈ T, q x) ∧ ∀ x ∈ c', q x :=
  ⟨fun x hx => hc x (h.p.mem_iff.1 (List.mem_append_left _ hx)), fun x hx => hc x (h.p.mem_iff.1 (List.mem_append_right _ hx))⟩
theorem DropO.lens {c : Bq} {iv : Int} {n : Nat} {c' : Bq} (h : DropO c iv n c') : n + c'.length = c.length := by
  cases h with
  | no => omega
  | yes _ ht => exact ht.lens
theorem DropO.ok {c : Bq} {iv : Int} {n : Nat} {c' : Bq} (h : DropO c iv n c') {q : Pq × FrO → Prop} (hc : ∀ x ∈ c, q x) : ∀ x ∈ c', q x := by
  cases h with
  | no => exact hc
  | yes _ ht => exact (ht.ok hc).2
theorem ponce (p : Option Addr) (n : Nat) (L : List Act20) (hL : ∀ x ∈ L, x.Ok) (hc : L.length ≤ n) : Spc Try.prog 3 #[.slice p L.length n] (sls p 24 L.length (L.flatMap Act20.cells) :: L.flatMap Act20.its) [] (Is (.bool true)) := by
  generalize hJ : (sls p 24 L.length (L.flatMap Act20.cells) :: L.flatMap Act20.its) = J
  have m1 : sls p 24 L.length (L.flatMap Act20.cells) ∈ J := by rw [← hJ]; exact List.Mem.head _
  have m3 : ∀ y ∈ L.flatMap Act20.its, y ∈ J := fun y hy => by rw [← hJ]; exact List.Mem.tail _ hy
  clear hJ
  refine Spc.enter Try.func3 rfl rfl rfl (fun w0 hw0 => ?_)
  refine CW.seq ?_
  refine CW.region (ef := []) (bk := []) ?_
  refine RL.assign rfl rfl rfl rfl ?_
  refine RL.nil ?_
  refine NQ.seq ?_
  refine CW.seq ?_
  refine CW.seq ?_
  refine CW.region (ef := []) (bk := []) ?_
  refine RL.callvq (works20) Try.call8 rfl rfl rfl rfl ?_
  refine RL.not rfl rfl rfl rfl ?_
  refine RL.nil ?_
  refine NQ.seq ?_
  refine CW.condF rfl (rfl) ?_
  refine CW.skip ?_
  refine NQ.seq ?_
  refine CW.seq ?_
  refine CW.region (ef := [0]) (bk := []) ?_
  refine RL.callq (qnew_any) Try.call9 rfl rfl rfl rfl rfl (.inl rfl) ?_
  rintro _ _ _ ⟨b, r, rfl, rfl, rfl⟩
  refine RL.assign rfl rfl rfl rfl ?_
  refine RL.nil ?_
  refine NQ.seq ?_
  refine CW.seq ?_
  refine CW.region (ef := []) (bk := []) ?_
  refine RL.assign rfl rfl rfl rfl ?_
  refine RL.assign rfl rfl rfl rfl ?_
  refine RL.nil ?_
  refine NQ.seq ?_
  refine CW.seq ?_
  refine CW.seq ?_
  refine CW.region (ef := []) (bk := []) ?_
  refine RL.assign rfl rfl rfl rfl ?_
  refine RL.nil ?_
  refine NQ.seq ?_
  refine CW.block ?_
  refine CW.loop (γ := OG) (OG.ok L.length) (fun z => [(0, .slice p L.length n), (3, .pointer (some ⟨b, 0, none⟩)), (4, .int .i64 (z.u : Int)), (5, .int .i64 (z.o : Int)), (6, .int .i64 (z.i : Int))])
    (fun _ => J) (fun z => [bufI b r, mapQ r z.c]) (fun z => L.length - z.i) ⟨0, [], 0, 0⟩ ⟨Nat.zero_le _, by decide, rfl, by decide, fun x hx => (by cases hx), Nat.le_refl _⟩
    (.cons rfl (.cons rfl (.cons rfl (.cons rfl (.cons rfl .nil))))) (fun w h => h.rea (fun _ h => by simpa using h) (by repeat (first | exact Rea.nil | (apply Rea.cons; (solve | (repeat (first | exact Del.here | apply Del.there))))))) ?_
  rintro ⟨i, c, u, o⟩ ⟨hi, hb, hk, hm, hco, hu⟩
  dsimp only at hi hb hk hm hco hu ⊢
  have hco1 : ∀ x ∈ c, x.2.Ok := fun x hx => (hco x hx).1
  refine CW.fact (p := p = none → L.length = 0) (fun w hC e => sls_nil (hC.s.i _ m1) e) (fun hpa => ?_)
  refine CW.seq ?_
  refine CW.seq ?_
  refine CW.region (ef := []) (bk := []) ?_
  refine RL.move rfl rfl rfl rfl ?_
  refine RL.move rfl rfl rfl rfl ?_
  refine RL.lenS Try.runUnderlying22 rfl rfl rfl rfl ?_
  refine RL.bin rfl rfl rfl rfl rfl rfl ?_
  refine RL.move rfl rfl rfl rfl ?_
  apply RL.andB (d := 17) (dp := 20) (l' := (Sq.of [])) rfl (.cons (k := 0) rfl (.cons (k := 3) rfl (.cons (k := 4) rfl (.cons (k := 5) rfl (.cons (k := 6) rfl .nil)))))
  ·
    intro hb5 K5
    refine RL.move rfl rfl rfl rfl ?_
    refine RL.bin rfl rfl rfl rfl rfl rfl ?_
    refine RL.pickT rfl rfl rfl rfl rfl ?_
    exact K5 _ (.cons rfl (.cons (k := 0) rfl (.cons (k := 3) rfl (.cons (k := 4) rfl (.cons (k := 5) rfl (.cons (k := 6) rfl .nil))))))
  ·
    intro hb5 K5
    refine RL.skip rfl rfl rfl rfl ?_
    refine RL.skip rfl rfl rfl rfl ?_
    refine RL.pickF rfl rfl rfl rfl rfl ?_
    exact K5 _ (.cons rfl (.cons (k := 0) rfl (.cons (k := 3) rfl (.cons (k := 4) rfl (.cons (k := 5) rfl (.cons (k := 6) rfl .nil))))))
  refine RL.nil ?_
  refine NQ.seq ?_
  refine CW.cond rfl (fun hlt => ?_) (fun hlt => ?_)
  ·
    obtain ⟨hlt, hlt40⟩ : i < L.length ∧ i < 60 := by simp at hlt; omega
    cases p with
    | none => exact absurd (hpa rfl) (by omega)
    | some ad =>
    have hxa := List.getElem?_eq_getElem hlt
    generalize L[i] = x at hxa
    have hma := List.mem_of_getElem? hxa
    have hxo := hL x hma
    have hal := act20_len hxo
    have hfl := fr_len hxo.x.f.tag x.x.sl
    have mS := its20 m3 hma
    have w9 : RdsN J (ad.add (i * 24)) 24 x.cells := act20_rdsN hL m1 hxa
    refine CW.skip ?_
    refine NQ.seq ?_
    refine CW.seq ?_
    refine CW.block ?_
    refine CW.seq ?_
    refine CW.region (ef := [4, 5]) (bk := [5]) ?_
    refine RL.move rfl rfl rfl rfl ?_
    refine RL.move rfl rfl rfl rfl ?_
    first | refine RL.idxAt (j := i) Try.runUnderlying22 Try.sizeOf36 rfl rfl rfl rfl rfl rfl (hlt) ?_ | refine RL.idx (j := i) Try.runUnderlying22 Try.sizeOf36 rfl rfl rfl rfl rfl rfl (hlt) ?_
    first | refine RL.loadM Try.isAgg36 Try.sizeOf36 rfl rfl rfl rfl (by assumption) ?_ | refine RL.loadA Try.isAgg36 Try.sizeOf36 rfl rfl rfl rfl (by first | assumption | (apply RdsI.rds; assumption)) (by first | rfl | assumption | (simp only [List.length_map]; assumption) | (simp only [List.length_map, List.length_replicate, hal]; done) | (simp; done)) ?_ | refine RL.loadW Try.isAgg36 Try.sizeOf36 rfl rfl rfl rfl (by (solve | (repeat (first | exact List.Mem.head _ | apply List.Mem.tail)))) (by first | rfl | assumption | (simp only [List.length_map]; assumption) | (simp only [List.length_map, List.length_replicate, hal]; done) | (simp; done)) ?_
    refine RL.alloc Try.zeroValue36 rfl rfl rfl rfl rfl ?_
    intro b1
    refine RL.storeW Try.sizeOf36 rfl rfl rfl rfl rfl rfl rfl (by first | rfl | exact ones_map one8 _ | exact ones_map (fun _ => rfl) _) (by repeat (first | exact Upd.here | apply Upd.there)) (by first | rfl | assumption | (simp only [List.length_map]; assumption) | (simp only [List.length_map, List.length_replicate, hal]; done) | (simp; done)) (by first | rfl | assumption | (simp only [List.length_map]; assumption) | (simp only [List.length_map, List.length_replicate, hal]; done) | (simp; done)) ?_
    refine RL.nil ?_
    refine NQ.seq ?_
    refine CW.seq ?_
    refine CW.seq ?_
    refine CW.region (ef := []) (bk := []) ?_
    first | refine RL.fieldAddr fa_36_0 rfl rfl rfl rfl ?_ | refine RL.fieldAddrG fa_36_0 rfl rfl rfl rfl ?_
    refine RL.loadq Try.isAgg3 rfl rfl rfl rfl ?_
    refine RL.callvq (among_any x.d 7 (by decide) (by decide)) Try.call10 rfl rfl rfl rfl ?_
    refine RL.nil ?_
    refine NQ.seq ?_
    refine CW.only (.cons (k := 0) rfl (.cons (k := 3) rfl (.cons (k := 4) rfl (.cons (k := 5) rfl (.cons (k := 6) rfl (.cons (k := 7) rfl (.cons (k := 29) rfl .nil))))))) ?_
    refine CW.cutG (γ := Bq × Nat × Nat) (fun g => g.1.length + g.2.2 = g.2.1 ∧ g.1.length ≤ 16 ∧ (∀ x ∈ g.1, x.2.Ok ∧ x.1.1 ≤ 4294967295) ∧ g.2.1 ≤ i + 1) (fun g => [(0, .slice (some ad) L.length n), (3, .pointer (some ⟨b, 0, none⟩)), (4, .int .i64 (g.2.1 : Int)), (5, .int .i64 (g.2.2 : Int)), (6, .int .i64 (i : Int))]) (fun _ => J) (fun g => [bufI b r, mapQ r g.1]) ?_ ?_
    ·
      refine CW.freezeP (A := [_]) (B := [_, _]) (.take (.leave (.leave .nil))) rfl ?_
      refine CW.genI (fun J2 hJ2 => ?_)
      have hJJ : ∀ y ∈ J, y ∈ J2 := fun y hy => hJ2 y (by simp [hy])
      have mA : cel b1 x.cells 36 ∈ J2 := hJ2 _ (by simp)
      have mS2 := hJJ _ mS
      clear hJ2
      have rP : RdsN J2 ⟨b1, 0 + 1, none⟩ 2 [.int .u32 x.p.1, .int .u8 x.p.2] := RdsN.told mA (fun j u hj => by
        match j, hj with
        | 0, hj => exact hj
        | 1, hj => exact hj
        | j + 2, hj => simp at hj) rfl
      have rI : RdI J2 ⟨b1, 0 + 1 + 0, none⟩ (.int .u32 x.p.1) := ⟨fun _ => Rd.getI mA rfl⟩
      have rF : RdsN J2 ⟨b1, 0 + 3, none⟩ 21 (x.x.f.cells x.x.sl) := RdsN.told mA (fun j u hj => by rw [show 0 + 3 + j = j + 1 + 1 + 1 by omega]; exact hj) hfl
      refine CW.block ?_
      refine CW.seq ?_
      refine CW.region (ef := []) (bk := []) ?_
      refine RL.bin rfl rfl rfl rfl rfl rfl ?_
      refine RL.assign rfl rfl rfl rfl ?_
      refine RL.nil ?_
      refine NQ.seq ?_
      refine CW.cond rfl (fun h5 => ?_) (fun h5 => ?_)
      ·
        refine CW.seq ?_
        refine CW.region (ef := [4]) (bk := [4]) ?_
        refine RL.move rfl rfl rfl rfl ?_
        first | refine RL.fieldAddr fa_36_1 rfl rfl rfl rfl ?_ | refine RL.fieldAddrG fa_36_1 rfl rfl rfl rfl ?_
        first | refine RL.fieldAddr fa_28_0 rfl rfl rfl rfl ?_ | refine RL.fieldAddrG fa_28_0 rfl rfl rfl rfl ?_
        refine RL.loadq Try.isAgg26 rfl rfl rfl rfl ?_
        refine RL.callq (qtake_any b r c x.p.1 hco1 (by omega)) Try.call11 rfl rfl rfl rfl rfl (.inr rfl) ?_
        rintro _ _ _ ⟨ob, cp, T, c', hT, rfl, rfl, rfl⟩
        have hTl := hT.lens
        have hTc := (hT.ok hco).1
        have hTc' := (hT.ok hco).2
        have hT23 : ∀ y ∈ T, (itc y).length = 23 := fun y hy => itc_len (hTc y hy).1
        refine RL.assign rfl rfl rfl rfl ?_
        refine RL.nil ?_
        refine NQ.seq ?_
        refine CW.only (.cons (k := 0) rfl (.cons (k := 3) rfl (.cons (k := 4) rfl (.cons (k := 5) rfl (.cons (k := 6) rfl (.cons (k := 7) rfl (.cons (k := 8) rfl .nil))))))) ?_
        refine CW.seq ?_
        refine CW.region (ef := []) (bk := []) ?_
        refine RL.move rfl rfl rfl rfl ?_
        refine RL.move rfl rfl rfl rfl ?_
        refine RL.lenS Try.runUnderlying38 rfl rfl rfl rfl ?_
        refine RL.binX rfl rfl rfl rfl rfl rfl (wrapV_i64 (by omega) (by omega)) ?_
        refine RL.assign rfl rfl rfl rfl ?_
        refine RL.nil ?_
        refine NQ.seq ?_
        refine CW.seq ?_
        refine CW.region (ef := []) (bk := []) ?_
        refine RL.assign rfl rfl rfl rfl ?_
        refine RL.nil ?_
        refine NQ.seq ?_
        refine CW.block ?_
        refine CW.fact (p := ob = none → T.length = 0) (fun w hC e => by subst e; exact own_none (hC.s.h _ (List.Mem.head _))) (fun hob => ?_)
        refine CW.loop (γ := Nat) (fun k => k ≤ T.length) (fun k => [(0, .slice (some ad) L.length n), (3, .pointer (some ⟨b, 0, none⟩)), (4, .int .i64 (u : Int)), (5, .int .i64 ((o + T.length : Nat) : Int)), (6, .int .i64 (i : Int)), (7, .pointer (some ⟨b1, 0, none⟩)), (8, slO ob T.length cp), (9, .int .i64 (k : Int))])
          (fun _ => J2) (fun _ => [own ob cp 41 23 T.length (T.flatMap itc), bufI b r, mapQ r c']) (fun k => T.length - k) 0 (by omega) (.cons rfl (.cons rfl (.cons rfl (.cons (by simp; rfl) (.cons rfl (.cons rfl (.cons rfl (.cons rfl .nil)))))))) (fun w h => h.rea (fun _ h => h) (by repeat (first | exact Rea.nil | (apply Rea.cons; (solve | (repeat (first | exact Del.here | apply Del.there))))))) ?_
        intro k hk
        refine CW.seq ?_
        refine CW.seq ?_
        refine CW.region (ef := []) (bk := []) ?_
        refine RL.move rfl rfl rfl rfl ?_
        refine RL.move rfl rfl rfl rfl ?_
        refine RL.lenS Try.runUnderlying38 rfl rfl rfl rfl ?_
        refine RL.bin rfl rfl rfl rfl rfl rfl ?_
        refine RL.nil ?_
        refine NQ.seq ?_
        refine CW.cond rfl (fun hlk => ?_) (fun hlk => ?_)
        ·
          have hlk : k < T.length := by simp at hlk; omega
          obtain ⟨q, rfl⟩ : ∃ q, ob = some q := by
            cases ob with
            | none => exact absurd (hob rfl) (by omega)
            | some q => exact ⟨q, rfl⟩
          have hTk := List.getElem?_eq_getElem hlk
          generalize T[k] = y at hTk
          have hle := hT.le y (List.mem_of_getElem? hTk)
          have rk : ∀ I', Rds I' [own (some q) cp 41 23 T.length (T.flatMap itc), bufI b r, mapQ r c'] ⟨q, 0 + k * 23, none⟩ [.int .u32 y.1.1, .int .u8 y.1.2] := fun I' => by
            have h := own_rds (I := I') (show own (some q) cp 41 23 T.length (T.flatMap itc) ∈ [own (some q) cp 41 23 T.length (T.flatMap itc), bufI b r, mapQ r c'] from List.Mem.head _) hTk hT23
            exact Rds.take2 h
          cases k with
          | zero =>
            have hlk0 := hlk
            refine CW.skip ?_
            refine NQ.seq ?_
            refine CW.seq ?_
            refine CW.block ?_
            refine CW.seq ?_
            refine CW.regionD (Sq.of [0, 1, 2, 3, 4, 5, 6, 7, 8, 9, 10, 11, 12, 13, 14, 15, 16, 17, 18, 19, 21, 22, 23, 24, 25, 20, 26, 27, 28, 29, 30]) [20, 26, 27] [] [0, 1, 2, 3, 4, 6, 7, 9, 10, 11, 12, 13, 14, 15, 16, 17, 18, 21, 22, 23, 24, 28, 29, 30] mixed (by kernel_rfl) ?_
            refine RL.move rfl rfl rfl rfl ?_
            refine RL.move rfl rfl rfl rfl ?_
            first | refine RL.idxAt (j := 0) Try.runUnderlying38 Try.sizeOf41 rfl rfl rfl rfl rfl rfl (hlk) ?_ | refine RL.idx (j := 0) Try.runUnderlying38 Try.sizeOf41 rfl rfl rfl rfl rfl rfl (hlk) ?_
            first | refine RL.fieldAddr fa_41_0 rfl rfl rfl rfl ?_ | refine RL.fieldAddrG fa_41_0 rfl rfl rfl rfl ?_
            first | refine RL.fieldAddr fa_28_0 rfl rfl rfl rfl ?_ | refine RL.fieldAddrG fa_28_0 rfl rfl rfl rfl ?_
            refine RL.load Try.isAgg26 rfl rfl rfl rfl (own_rd2 (j := 0) (List.Mem.head _) hTk hT23 rfl) ?_
            first | refine RL.fieldAddr fa_36_1 rfl rfl rfl rfl ?_ | refine RL.fieldAddrG fa_36_1 rfl rfl rfl rfl ?_
            first | refine RL.fieldAddr fa_28_0 rfl rfl rfl rfl ?_ | refine RL.fieldAddrG fa_28_0 rfl rfl rfl rfl ?_
            refine RL.loadq Try.isAgg26 rfl rfl rfl rfl ?_
            refine RL.bin rfl rfl rfl rfl rfl rfl ?_
            refine RL.move rfl rfl rfl rfl ?_
            refine RL.cast (d := 67) (v' := .bool false) rfl (by simpa using hle) ?_
            refine RL.move rfl rfl rfl rfl ?_
            refine RL.bin rfl rfl rfl rfl rfl rfl ?_
            refine RL.move rfl rfl rfl rfl ?_
            refine RL.cast (d := 70) (v' := .bool false) rfl (rfl) ?_
            refine RL.skip rfl rfl rfl rfl ?_
            refine RL.skip rfl rfl rfl rfl ?_
            refine RL.skip rfl rfl rfl rfl ?_
            refine RL.skip rfl rfl rfl rfl ?_
            refine RL.skip rfl rfl rfl rfl ?_
            refine RL.skip rfl rfl rfl rfl ?_
            refine RL.skip rfl rfl rfl rfl ?_
            refine RL.skip rfl rfl rfl rfl ?_
            refine RL.skip rfl rfl rfl rfl ?_
            refine RL.skip rfl rfl rfl rfl ?_
            refine RL.skip rfl rfl rfl rfl ?_
            refine RL.skip rfl rfl rfl rfl ?_
            refine RL.skip rfl rfl rfl rfl ?_
            refine RL.skip rfl rfl rfl rfl ?_
            refine RL.skip rfl rfl rfl rfl ?_
            refine RL.pickF rfl rfl rfl rfl rfl ?_
            refine RL.pickF rfl rfl rfl rfl rfl ?_
            refine RL.nil ?_
            refine NQ.seq ?_
            refine CW.only (.cons (k := 0) rfl (.cons (k := 3) rfl (.cons (k := 4) rfl (.cons (k := 5) rfl (.cons (k := 6) rfl (.cons (k := 7) rfl (.cons (k := 8) rfl (.cons (k := 9) rfl (.cons (k := 87) rfl .nil))))))))) ?_
            refine CW.condF rfl rfl ?_
            refine CW.skip ?_
            refine NQ.block ?_
            refine NQ.seq ?_
            refine CW.region (ef := []) (bk := []) ?_
            refine RL.move rfl rfl rfl rfl ?_
            refine RL.binX rfl rfl rfl rfl rfl rfl (wrapV_i64 (by omega) (by omega)) ?_
            refine RL.assign rfl rfl rfl rfl ?_
            refine RL.nil ?_
            refine NQ.round (g := 0) 1 hlk (by omega) (.cons rfl (.cons rfl (.cons rfl (.cons rfl (.cons rfl (.cons rfl (.cons rfl (.cons rfl .nil)))))))) (fun w h => h)
          | succ j =>
            have hTj := List.getElem?_eq_getElem (show j < T.length by omega)
            generalize T[j]'(show j < T.length by omega) = y0 at hTj
            have hah : ltQ y0.1 y.1 := by
              have hs := hT.s
              have e0 : (keysQ T)[j]? = some y0.1 := by rw [keysQ, List.getElem?_map, hTj]; rfl
              have e1 : (keysQ T)[j + 1]? = some y.1 := by rw [keysQ, List.getElem?_map, hTk]; rfl
              obtain ⟨l0, e0⟩ := List.getElem?_eq_some_iff.1 e0
              obtain ⟨l1, e1⟩ := List.getElem?_eq_some_iff.1 e1
              have := List.pairwise_iff_getElem.1 hs j (j + 1) l0 l1 (by omega)
              rw [e0, e1] at this; exact this
            have rk0 : ∀ I', Rds I' [own (some q) cp 41 23 T.length (T.flatMap itc), bufI b r, mapQ r c'] ⟨q, 0 + j * 23, none⟩ [.int .u32 y0.1.1, .int .u8 y0.1.2] := fun I' => by
              have h := own_rds (I := I') (show own (some q) cp 41 23 T.length (T.flatMap itc) ∈ [own (some q) cp 41 23 T.length (T.flatMap itc), bufI b r, mapQ r c'] from List.Mem.head _) hTj hT23
              exact Rds.take2 h
            refine CW.skip ?_
            refine NQ.seq ?_
            refine CW.seq ?_
            refine CW.block ?_
            refine CW.seq ?_
            refine CW.regionD (Sq.of [0, 1, 2, 3, 4, 5, 6, 7, 8, 9, 10, 11, 12, 13, 14, 15, 16, 17, 18, 19, 20, 21, 22, 23, 24, 25, 26, 27, 28, 29, 30]) [] [] [0, 1, 2, 3, 4, 6, 7, 9, 10, 11, 12, 13, 14, 15, 16, 17, 18, 21, 22, 23, 24, 28, 29, 30] mixed (by kernel_rfl) ?_
            refine RL.move rfl rfl rfl rfl ?_
            refine RL.move rfl rfl rfl rfl ?_
            first | refine RL.idxAt (j := (j + 1)) Try.runUnderlying38 Try.sizeOf41 rfl rfl rfl rfl rfl rfl (hlk) ?_ | refine RL.idx (j := (j + 1)) Try.runUnderlying38 Try.sizeOf41 rfl rfl rfl rfl rfl rfl (hlk) ?_
            first | refine RL.fieldAddr fa_41_0 rfl rfl rfl rfl ?_ | refine RL.fieldAddrG fa_41_0 rfl rfl rfl rfl ?_
            first | refine RL.fieldAddr fa_28_0 rfl rfl rfl rfl ?_ | refine RL.fieldAddrG fa_28_0 rfl rfl rfl rfl ?_
            refine RL.load Try.isAgg26 rfl rfl rfl rfl (own_rd2 (j := 0) (List.Mem.head _) hTk hT23 rfl) ?_
            first | refine RL.fieldAddr fa_36_1 rfl rfl rfl rfl ?_ | refine RL.fieldAddrG fa_36_1 rfl rfl rfl rfl ?_
            first | refine RL.fieldAddr fa_28_0 rfl rfl rfl rfl ?_ | refine RL.fieldAddrG fa_28_0 rfl rfl rfl rfl ?_
            refine RL.loadq Try.isAgg26 rfl rfl rfl rfl ?_
            refine RL.bin rfl rfl rfl rfl rfl rfl ?_
            refine RL.move rfl rfl rfl rfl ?_
            refine RL.cast (d := 67) (v' := .bool false) rfl (by simpa using hle) ?_
            refine RL.move rfl rfl rfl rfl ?_
            refine RL.bin rfl rfl rfl rfl rfl rfl ?_
            refine RL.move rfl rfl rfl rfl ?_
            refine RL.cast (d := 70) (v' := .bool true) rfl (by first | (simp; done) | (simp; omega)) ?_
            refine RL.move rfl rfl rfl rfl ?_
            refine RL.move rfl rfl rfl rfl ?_
            refine RL.binX rfl rfl rfl rfl rfl rfl (wrapV_i64 (by omega) (by omega)) ?_
            refine RL.idxAt (j := j) Try.runUnderlying38 Try.sizeOf41 rfl rfl rfl rfl rfl (by omega) (by omega) ?_
            first | refine RL.fieldAddr fa_41_0 rfl rfl rfl rfl ?_ | refine RL.fieldAddrG fa_41_0 rfl rfl rfl rfl ?_
            refine RL.loadN (vs := [_, _]) Try.isAgg28 Try.sizeOf28 rfl rfl rfl rfl (rk0 _) ?_
            refine RL.callvq (plain_any y0.1) Try.call13 rfl rfl rfl rfl ?_
            refine RL.move rfl rfl rfl rfl ?_
            refine RL.move rfl rfl rfl rfl ?_
            first | refine RL.idxAt (j := (j + 1)) Try.runUnderlying38 Try.sizeOf41 rfl rfl rfl rfl rfl rfl (hlk) ?_ | refine RL.idx (j := (j + 1)) Try.runUnderlying38 Try.sizeOf41 rfl rfl rfl rfl rfl rfl (hlk) ?_
            first | refine RL.fieldAddr fa_41_0 rfl rfl rfl rfl ?_ | refine RL.fieldAddrG fa_41_0 rfl rfl rfl rfl ?_
            refine RL.loadN (vs := [_, _]) Try.isAgg28 Try.sizeOf28 rfl rfl rfl rfl (rk _) ?_
            refine RL.callvq (plain_any y.1) Try.call13 rfl rfl rfl rfl ?_
            refine RL.callvq (ahead_any y0.1 y.1) Try.call12 rfl rfl rfl rfl ?_
            refine RL.not rfl rfl rfl rfl ?_
            refine RL.pickT rfl rfl rfl rfl rfl ?_
            refine RL.pickF rfl rfl rfl rfl rfl ?_
            refine RL.nil ?_
            refine NQ.seq ?_
            refine CW.only (.cons (k := 0) rfl (.cons (k := 3) rfl (.cons (k := 4) rfl (.cons (k := 5) rfl (.cons (k := 6) rfl (.cons (k := 7) rfl (.cons (k := 8) rfl (.cons (k := 9) rfl (.cons (k := 87) rfl .nil))))))))) ?_
            refine CW.condF rfl (by simp [hah]) ?_
            refine CW.skip ?_
            refine NQ.block ?_
            refine NQ.seq ?_
            refine CW.region (ef := []) (bk := []) ?_
            refine RL.move rfl rfl rfl rfl ?_
            refine RL.binX rfl rfl rfl rfl rfl rfl (wrapV_i64 (by omega) (by omega)) ?_
            refine RL.assign rfl rfl rfl rfl ?_
            refine RL.nil ?_
            refine NQ.round (g := j + 1) (j + 2) hlk (by omega) (.cons rfl (.cons rfl (.cons rfl (.cons rfl (.cons rfl (.cons rfl (.cons rfl (.cons rfl .nil)))))))) (fun w h => h)
        ·
          refine CW.exit ?_
          refine XQ.seq ?_
          refine XQ.seq ?_
          refine XQ.hit ?_
          refine NQ.block ?_
          exact NQ.midG (c', u, o + T.length) ⟨by show c'.length + (o + T.length) = u; omega, by show c'.length ≤ 16; omega, hTc', by show u ≤ i + 1; omega⟩ (.cons rfl (.cons rfl (.cons rfl (.cons rfl (.cons rfl .nil))))) (fun w h => h.rea hJJ (by repeat (first | exact Rea.nil | (apply Rea.cons; (solve | (repeat (first | exact Del.here | apply Del.there)))))))
      ·
        refine CW.seq ?_
        refine CW.region (ef := []) (bk := []) ?_
        refine RL.bin rfl rfl rfl rfl rfl rfl ?_
        refine RL.assign rfl rfl rfl rfl ?_
        refine RL.nil ?_
        refine NQ.seq ?_
        refine CW.cond rfl (fun h6 => ?_) (fun h6 => ?_)
        ·
          refine CW.region (ef := [5]) (bk := [5]) ?_
          refine RL.move rfl rfl rfl rfl ?_
          refine RL.move rfl rfl rfl rfl ?_
          first | refine RL.fieldAddr fa_36_1 rfl rfl rfl rfl ?_ | refine RL.fieldAddrG fa_36_1 rfl rfl rfl rfl ?_
          first | refine RL.fieldAddr fa_28_0 rfl rfl rfl rfl ?_ | refine RL.fieldAddrG fa_28_0 rfl rfl rfl rfl ?_
          refine RL.loadq Try.isAgg26 rfl rfl rfl rfl ?_
          refine RL.callq (qdrop_any b r c x.p.1 hco1 (by omega)) Try.call14 rfl rfl rfl rfl rfl (.inr rfl) ?_
          rintro _ _ _ ⟨m, c', hD, rfl, rfl, rfl⟩
          have hDl := hD.lens
          refine RL.binX rfl rfl rfl rfl rfl rfl (wrapV_i64 (by omega) (by omega)) ?_
          refine RL.assign rfl rfl rfl rfl ?_
          refine RL.nil ?_
          refine NQ.block ?_
          exact NQ.midG (c', u, o + m) ⟨by show c'.length + (o + m) = u; omega, by show c'.length ≤ 16; omega, hD.ok hco, by show u ≤ i + 1; omega⟩ (.cons rfl (.cons rfl (.cons rfl (.cons (by simp; rfl) (.cons rfl .nil))))) (fun w h => h.rea hJJ (by repeat (first | exact Rea.nil | (apply Rea.cons; (solve | (repeat (first | exact Del.here | apply Del.there)))))))
        ·
          have hfk : (x.x.f.few 40).Ok := ⟨hxo.x.f.ep, hxo.x.f.ct, hxo.x.f.tag⟩
          have hfl2 : (x.x.f.few 40).b.length = min x.x.f.b.length 40 := by simp [Fr.few]; omega
          refine CW.seq ?_
          refine CW.regionD (Sq.of [0, 1, 2, 3, 4, 5, 6, 7]) [5, 6] [6] [0, 1, 3, 7] mixed (by kernel_rfl) ?_
          refine RL.move rfl rfl rfl rfl ?_
          first | refine RL.fieldAddr fa_36_1 rfl rfl rfl rfl ?_ | refine RL.fieldAddrG fa_36_1 rfl rfl rfl rfl ?_
          first | refine RL.loadM Try.isAgg28 Try.sizeOf28 rfl rfl rfl rfl (by assumption) ?_ | refine RL.loadA Try.isAgg28 Try.sizeOf28 rfl rfl rfl rfl (by first | assumption | (apply RdsI.rds; assumption)) (by first | rfl | assumption | (simp only [List.length_map]; assumption) | (simp only [List.length_map, List.length_replicate, hal]; done) | (simp; done)) ?_ | refine RL.loadW Try.isAgg28 Try.sizeOf28 rfl rfl rfl rfl (by (solve | (repeat (first | exact List.Mem.head _ | apply List.Mem.tail)))) (by first | rfl | assumption | (simp only [List.length_map]; assumption) | (simp only [List.length_map, List.length_replicate, hal]; done) | (simp; done)) ?_
          first | refine RL.fieldAddr fa_36_2 rfl rfl rfl rfl ?_ | refine RL.fieldAddrG fa_36_2 rfl rfl rfl rfl ?_
          first | refine RL.loadM Try.isAgg34 Try.sizeOf34 rfl rfl rfl rfl (by assumption) ?_ | refine RL.loadA Try.isAgg34 Try.sizeOf34 rfl rfl rfl rfl (by first | assumption | (apply RdsI.rds; assumption)) (by first | rfl | assumption | (simp only [List.length_map]; assumption) | (simp only [List.length_map, List.length_replicate, hal]; done) | (simp; done)) ?_ | refine RL.loadW Try.isAgg34 Try.sizeOf34 rfl rfl rfl rfl (by (solve | (repeat (first | exact List.Mem.head _ | apply List.Mem.tail)))) (by first | rfl | assumption | (simp only [List.length_map]; assumption) | (simp only [List.length_map, List.length_replicate, hal]; done) | (simp; done)) ?_
          refine RL.call (few20_any x.x.f x.x.p x.x.c x.x.f.b.length hxo.x.f rfl hxo.x.c hxo.x.b) Try.call16 rfl rfl rfl rfl rfl (by repeat (first | exact Pick.nil | apply Pick.take | apply Pick.leave)) (Lend.inI mS2 .nil) (.inl rfl) ?_
          rintro _ _ _ ⟨ob1, cap1, rfl, rfl, rfl, ho1⟩
          refine RL.call (qput_any b r c x.p (x.x.f.few 40) (ob1.map fun b => ⟨b, 0, none⟩) cap1 (min x.x.f.b.length 40) hfk hfl2 (by omega) hco1) Try.call15 rfl rfl rfl rfl rfl (by repeat (first | exact Pick.nil | apply Pick.take | apply Pick.leave)) (Lend.own (by repeat (first | exact List.Mem.head _ | apply List.Mem.tail)) .nil) (.inr rfl) ?_
          rintro _ _ _ ⟨e, c', rfl, hO, rfl⟩
          cases hO with
          | no hpe h0 =>
            refine RL.bin rfl rfl rfl rfl rfl rfl ?_
            refine RL.nil ?_
            refine NQ.seq ?_
            refine CW.only (.cons (k := 0) rfl (.cons (k := 3) rfl (.cons (k := 4) rfl (.cons (k := 5) rfl (.cons (k := 6) rfl (.cons (k := 37) rfl .nil)))))) ?_
            refine CW.condF rfl (by simpa using h0) ?_
            refine CW.skip ?_
            refine NQ.block ?_
            exact NQ.midG (c, u, o) ⟨hk, hm, hco, by show u ≤ i + 1; omega⟩ (.cons rfl (.cons rfl (.cons rfl (.cons rfl (.cons rfl .nil))))) (fun w h => h.rea (fun y hy => by simpa using hJJ y hy) (by repeat (first | exact Rea.nil | (apply Rea.cons; (solve | (repeat (first | exact Del.here | apply Del.there)))))))
          | yes y hyf hpe =>
            have h16 : c.length ≠ 16 := by
              intro h
              exact putE_16 (by simpa [keysQ] using h) hpe
            have hyo : y.Ok := ⟨by rw [hyf]; exact hfk, by rw [hyf, hfl2]; omega⟩
            refine RL.bin rfl rfl rfl rfl rfl rfl ?_
            refine RL.nil ?_
            refine NQ.seq ?_
            refine CW.only (.cons (k := 0) rfl (.cons (k := 3) rfl (.cons (k := 4) rfl (.cons (k := 5) rfl (.cons (k := 6) rfl (.cons (k := 37) rfl .nil)))))) ?_
            refine CW.condT rfl (rfl) ?_
            refine CW.region (ef := []) (bk := []) ?_
            refine RL.move rfl rfl rfl rfl ?_
            refine RL.binX rfl rfl rfl rfl rfl rfl (wrapV_i64 (by omega) (by omega)) ?_
            refine RL.assign rfl rfl rfl rfl ?_
            refine RL.nil ?_
            refine NQ.block ?_
            refine NQ.midG (c ++ [(x.p, y)], u + 1, o) ⟨by simp; omega, by simp; omega, fun z hz => ?_, by show u + 1 ≤ i + 1; omega⟩ (.cons rfl (.cons rfl (.cons rfl (.cons rfl (.cons rfl .nil))))) (fun w h => h.rea (fun y hy => by simp [hJJ y hy]) (by repeat (first | exact Rea.nil | (apply Rea.cons; (solve | (repeat (first | exact Del.here | apply Del.there)))))))
            rcases List.mem_append.1 hz with hz | hz
            · exact hco z hz
            · rw [List.mem_singleton] at hz; subst hz; exact ⟨hyo, hxo.p1.2⟩
    rintro ⟨c, u, o⟩ ⟨hk, hm, hco, hu⟩
    dsimp only at hk hm hco hu ⊢
    refine CW.seq ?_
    refine CW.region (ef := []) (bk := []) ?_
    refine RL.move rfl rfl rfl rfl ?_
    refine RL.callvq (qlen_any b r c) Try.call17 rfl rfl rfl rfl ?_
    refine RL.move rfl rfl rfl rfl ?_
    refine RL.move rfl rfl rfl rfl ?_
    refine RL.binX rfl rfl rfl rfl rfl rfl (wrapV_i64 (by omega) (by omega)) ?_
    refine RL.bin rfl rfl rfl rfl rfl rfl ?_
    refine RL.move rfl rfl rfl rfl ?_
    apply RL.orB (d := 103) (dp := 107) (l' := (Sq.of [])) rfl (.cons (k := 0) rfl (.cons (k := 3) rfl (.cons (k := 4) rfl (.cons (k := 5) rfl (.cons (k := 6) rfl .nil)))))
    ·
      intro hb7 K7
      refine RL.move rfl rfl rfl rfl ?_
      refine RL.callvq (qlen_any b r c) Try.call17 rfl rfl rfl rfl ?_
      refine RL.bin rfl rfl rfl rfl rfl rfl ?_
      refine RL.pickF rfl rfl rfl rfl rfl ?_
      exact K7 _ (.cons rfl (.cons (k := 0) rfl (.cons (k := 3) rfl (.cons (k := 4) rfl (.cons (k := 5) rfl (.cons (k := 6) rfl .nil))))))
    ·
      intro hb7 K7
      refine RL.skip rfl rfl rfl rfl ?_
      refine RL.skip rfl rfl rfl rfl ?_
      refine RL.skip rfl rfl rfl rfl ?_
      refine RL.pickT rfl rfl rfl rfl rfl ?_
      exact K7 _ (.cons rfl (.cons (k := 0) rfl (.cons (k := 3) rfl (.cons (k := 4) rfl (.cons (k := 5) rfl (.cons (k := 6) rfl .nil))))))
    refine RL.nil ?_
    refine NQ.seq ?_
    refine CW.condF rfl (by simp; omega) ?_
    refine CW.skip ?_
    refine NQ.block ?_
    refine NQ.seq ?_
    refine CW.region (ef := []) (bk := []) ?_
    refine RL.move rfl rfl rfl rfl ?_
    refine RL.binX rfl rfl rfl rfl rfl rfl (wrapV_i64 (by omega) (by omega)) ?_
    refine RL.assign rfl rfl rfl rfl ?_
    refine RL.nil ?_
    refine NQ.round (g := (⟨i, c, u, o⟩ : OG)) (⟨i + 1, c, u, o⟩ : OG) ⟨hlt, by show i + 1 ≤ 60; omega, hk, hm, hco, hu⟩ (by show L.length - (i + 1) < L.length - i; omega) (.cons rfl (.cons rfl (.cons rfl (.cons rfl (.cons rfl .nil))))) (fun w h => h)
  ·
    refine CW.exit ?_
    refine XQ.seq ?_
    refine XQ.seq ?_
    refine XQ.hit ?_
    refine NQ.seq ?_
    refine CW.seq ?_
    refine CW.region (ef := [1]) (bk := [1]) ?_
    refine RL.move rfl rfl rfl rfl ?_
    refine RL.callq (qtake_any b r c 4294967295 hco1 (by omega)) Try.call11 rfl rfl rfl rfl rfl (.inr rfl) ?_
    rintro _ _ _ ⟨ob, cp, T, c', hT, rfl, rfl, rfl⟩
    have hTl := hT.lens
    have hc0 : c' = [] := by
      cases c' with
      | nil => rfl
      | cons y rr =>
        have h1 := hT.gt y (by simp)
        have h2 := ((hT.ok hco).2 y (by simp)).2
        omega
    subst hc0
    refine RL.lenS Try.runUnderlying38 rfl rfl rfl rfl ?_
    refine RL.move rfl rfl rfl rfl ?_
    refine RL.move rfl rfl rfl rfl ?_
    refine RL.binX rfl rfl rfl rfl rfl rfl (wrapV_i64 (by omega) (by omega)) ?_
    refine RL.bin rfl rfl rfl rfl rfl rfl ?_
    refine RL.move rfl rfl rfl rfl ?_
    apply RL.andB (d := 115) (dp := 119) (l' := (Sq.of [12])) rfl .nil
    ·
      intro hb8 K8
      refine RL.move rfl rfl rfl rfl ?_
      refine RL.callvq (qlen_any b r []) Try.call17 rfl rfl rfl rfl ?_
      refine RL.bin rfl rfl rfl rfl rfl rfl ?_
      refine RL.pickT rfl rfl rfl rfl rfl ?_
      exact K8 _ (.cons rfl .nil)
    ·
      intro hb8 K8
      refine RL.skip rfl rfl rfl rfl ?_
      refine RL.skip rfl rfl rfl rfl ?_
      refine RL.skip rfl rfl rfl rfl ?_
      refine RL.pickF rfl rfl rfl rfl rfl ?_
      exact K8 _ (.cons rfl .nil)
    refine RL.assign rfl rfl rfl rfl ?_
    refine RL.nil ?_
    refine NQ.seq ?_
    refine CW.ret ?_
    refine RQ.post (res1 rfl rfl) (Split.none _) ⟨?_, rfl, rfl⟩
    simp at hTl ⊢; omega
theorem pendOnce_call (W : World) (x : Sl Act20) (hx : rActs20.ok x) (tx : ∀ y ∈ rActs20.its x, y.A W) :
    Calls Try.prog 3 #[rActs20.val x] W (fun e w' => e = .returned (.bool true) ∧ RowKit.Below W.heap.size W w') := by
  have ht : ∀ y ∈ (sls x.p 24 x.l.length (x.l.flatMap Act20.cells) :: x.l.flatMap Act20.its), y.A W := tx
  exact (ponce x.p x.c x.l hx.2.2.2 hx.1).lawI ht
end Go.Proofs.Ytggmnhogmjglmaa
