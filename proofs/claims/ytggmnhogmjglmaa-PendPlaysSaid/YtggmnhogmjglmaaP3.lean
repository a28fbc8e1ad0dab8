import Derived.Test.YtggmnhogmjglmaaP2
namespace Go.Proofs.Ytggmnhogmjglmaa
open Go.PK
/-! ### Items -/
def itc (x : Pq × FrO) : List Value := plcq x.1 ++ x.2.cells
theorem itc_len {x : Pq × FrO} (h : x.2.Ok) : (itc x).length = 23 := by
  have := fro_len h
  simp only [itc, List.length_append, this]; rfl
theorem ones_it (x : Pq × FrO) : ∀ u ∈ itc x, u.oneCell' = true := by
  have h : ones (itc x) = true := by
    have h1 : ones x.2.cells = true := ones_fr _ rfl
    have e : ones (itc x) = (true && (true && ones x.2.cells)) := rfl
    rw [e, h1]; rfl
  exact fun u hu => ones_spec h u hu
theorem itc_fm_len {l : Bq} (h : ∀ x ∈ l, x.2.Ok) : ∀ x ∈ l, (itc x).length = 23 := fun x hx => itc_len (h x hx)
theorem fill_it {p : Pq} {x : FrO} (hx : x.Ok) {places : Array (Nat × Nat)} (hp : places = #[(0, 2), (2, 21)]) :
    fillL (places[·]?) (itc ((0, 0), fro0)) [(0, plq p), (1, frV x)] = some (itc (p, x)) := by
  subst hp
  refine fill_seg (vs := plcq p) [] (plcq (0, 0)) fro0.cells rfl rfl rfl rfl rfl rfl ?_
  refine fill_seg (vs := x.cells) (plcq p) fro0.cells [] rfl (agg_cells _) (by simp) rfl (fro_len fro0_ok) (fro_len hx) ?_
  simp [fillL, itc]
theorem fill_one23 {cs zs : List Value} (h : cs.length = 23) (hz : zs.length = 23) : fillL (fun j => some (j * 23, 23)) (reps zs 1) [(0, .agg cs.toArray)] = some cs := by
  refine fill_seg [] zs [] rfl (agg_cells _) (by simp [reps]) rfl hz h ?_
  simp [fillL]
theorem itc_snoc (l : Bq) (x : Pq × FrO) : (l ++ [x]).flatMap itc = l.flatMap itc ++ itc x := by simp
/-! ### Take -/
def ltQ (x y : Pq) : Prop := x.1 < y.1 ∨ x.1 = y.1 ∧ x.2 < y.2
structure TakeO (c : Bq) (iv : Int) (T c' : Bq) : Prop where
  p : (T ++ c').Perm c
  le : ∀ x ∈ T, x.1.1 ≤ iv
  gt : ∀ x ∈ c', iv < x.1.1
  s : (keysQ T).Pairwise ltQ
def TakeR (b r : Nat) (c : Bq) (iv : Int) : Value → List It → List It → Prop := fun v I' H' => ∃ ob cp T c', TakeO c iv T c' ∧ v = slO ob T.length cp ∧ I' = [] ∧ H' = [own ob cp 41 23 T.length (T.flatMap itc), bufI b r, mapQ r c']
theorem plsQ_sorted {c : Bq} (hn : (keysQ c).Nodup) : (plsQ c).Pairwise ltQ := by
  have h1 : (plsQ c).Pairwise fun x y => lexLe x y = true := List.pairwise_mergeSort (fun a b c h1 h2 => by simp [lexLe] at *; omega) (fun a b => by simp [lexLe]; omega) _
  have h2 : (plsQ c).Nodup := (List.mergeSort_perm (keysQ c) lexLe).nodup_iff.2 hn
  refine (h1.and h2).imp (fun {x y} ⟨h, hne⟩ => ?_)
  obtain ⟨a, b⟩ := x; obtain ⟨d, e⟩ := y
  have hne' : ¬ (a = d ∧ b = e) := fun h => hne (by rw [h.1, h.2])
  simp [lexLe] at h
  show a < d ∨ a = d ∧ b < e
  omega
/-- Half way through. -/
structure TakeI (c : Bq) (iv : Int) (i : Nat) (T c' : Bq) : Prop where
  hi : i ≤ c.length
  p : (T ++ c').Perm c
  k : keysQ T = (plsQ c).take i
  le : ∀ x ∈ T, x.1.1 ≤ iv
theorem TakeI.len {c : Bq} {iv : Int} {i : Nat} {T c' : Bq} (h : TakeI c iv i T c') : T.length = i := by
  have := congrArg List.length h.k
  rw [List.length_take, plsQ_len] at this
  have hi := h.hi
  simp [keysQ] at this; omega
theorem TakeI.rest {c : Bq} {iv : Int} {i : Nat} {T c' : Bq} (h : TakeI c iv i T c') : (keysQ c').Perm ((plsQ c).drop i) := by
  have h1 : (keysQ T ++ keysQ c').Perm (keysQ c) := by
    have := h.p.map Prod.fst
    rwa [List.map_append] at this
  have h2 : ((plsQ c).take i ++ (plsQ c).drop i).Perm (keysQ c) := by rw [List.take_append_drop]; exact List.mergeSort_perm _ _
  rw [h.k] at h1
  exact (List.perm_append_left_iff _).1 (h1.trans h2.symm)
theorem TakeI.next {c : Bq} {iv : Int} {i : Nat} {T c' : Bq} (h : TakeI c iv i T c') (hn : (keysQ c).Nodup) {p : Pq} (hp : (plsQ c)[i]? = some p) (hle : p.1 ≤ iv) : ∃ x, lkQ p c' = some x ∧ (p, x) ∈ c ∧ TakeI c iv (i + 1) (T ++ [(p, x)]) (delQ p c') := by
  have hlt := (List.getElem?_eq_some_iff.1 hp).1
  have hm : p ∈ keysQ c' := h.rest.mem_iff.2 (by rw [List.drop_eq_getElem_cons hlt, (List.getElem?_eq_some_iff.1 hp).2]; exact List.mem_cons_self)
  cases hx : lkQ p c' with
  | none => exact absurd hm (lkQ_none.1 hx)
  | some x =>
    refine ⟨x, rfl, h.p.mem_iff.1 (List.mem_append_right _ (lkQ_some hx)), by rw [plsQ_len] at hlt; exact hlt, ?_, ?_, ?_⟩
    · rw [List.append_assoc]
      exact (List.Perm.append_left T (delQ_perm hx).symm).trans h.p
    · rw [List.take_succ_eq_append_getElem hlt, ← h.k, (List.getElem?_eq_some_iff.1 hp).2]; simp [keysQ]
    · intro y hy
      rcases List.mem_append.1 hy with hy | hy
      · exact h.le y hy
      · rw [List.mem_singleton] at hy; subst hy; exact hle
theorem TakeI.fin {c : Bq} {iv : Int} {i : Nat} {T c' : Bq} (h : TakeI c iv i T c') (hn : (keysQ c).Nodup) (hp : ∀ p, (plsQ c)[i]? = some p → iv < p.1) : TakeO c iv T c' := by
  have hs := plsQ_sorted hn
  refine ⟨h.p, h.le, fun x hx => ?_, by rw [h.k]; exact hs.sublist (List.take_sublist _ _)⟩
  have hm : x.1 ∈ (plsQ c).drop i := h.rest.mem_iff.1 (List.mem_map.2 ⟨x, hx, rfl⟩)
  have hlt : i < (plsQ c).length := by
    rcases Nat.lt_or_ge i (plsQ c).length with h | h
    · exact h
    · rw [List.drop_of_length_le h] at hm; cases hm
  have h0 := hp _ (List.getElem?_eq_getElem hlt)
  rw [List.drop_eq_getElem_cons hlt] at hm
  have hs2 : ((plsQ c).drop i).Pairwise ltQ := hs.sublist (List.drop_sublist _ _)
  rw [List.drop_eq_getElem_cons hlt, List.pairwise_cons] at hs2
  rcases List.mem_cons.1 hm with hm | hm
  · rw [hm]; exact h0
  · have := hs2.1 _ hm
    simp only [ltQ] at this
    omega
theorem TakeI.zero (c : Bq) (iv : Int) : TakeI c iv 0 [] c := ⟨Nat.zero_le _, List.Perm.refl _, by simp [keysQ], fun x hx => by cases hx⟩
theorem own_rds {I H : List It} {b cap n sz i : Nat} {T : TypeId} {α : Type} {f : α → List Value} {R : List α} {x : α} (hm : own (some b) cap T sz n (R.flatMap f) ∈ H) (hx : R[i]? = some x) (hf : ∀ y ∈ R, (f y).length = sz) : Rds I H ⟨b, 0 + i * sz, none⟩ (f x) := by
  have h := Rds.part (I := I) (H := H) (j := i * sz) (vs := f x) (Rds.own hm) (fun q u hu => by
    have hlt : q < sz := by have := (List.getElem?_eq_some_iff.1 hu).1; rwa [hf x (List.mem_of_getElem? hx)] at this
    rw [get_flat (f := f) (n := sz) hf hx hlt]; exact hu)
  rwa [add_none] at h
theorem qtake_any (b r : Nat) (c : Bq) (iv : Int) (hc : ∀ x ∈ c, x.2.Ok) (hl : c.length ≤ 100000) : Spc Try.prog 11 #[.pointer (some ⟨b, 0, none⟩), .int .u32 iv] [] [bufI b r, mapQ r c] (TakeR b r c iv) := by
  refine Spc.fact (p := (keysQ c).Nodup) (fun w hw => mapQ_nodup (hw.h _ (List.Mem.tail _ (List.Mem.head _)))) (fun hnd => ?_)
  refine Spc.enter Try.func11 rfl rfl rfl (fun w0 hw0 => ?_)
  refine CW.seq ?_
  refine CW.region (ef := []) (bk := []) ?_
  refine RL.assign rfl rfl rfl rfl ?_
  refine RL.nil ?_
  refine NQ.seq ?_
  refine CW.seq ?_
  refine CW.region (ef := []) (bk := []) ?_
  refine RL.assign rfl rfl rfl rfl ?_
  refine RL.nil ?_
  refine NQ.seq ?_
  refine CW.seq ?_
  refine CW.seq ?_
  refine CW.region (ef := [1]) (bk := [1]) ?_
  refine RL.move rfl rfl rfl rfl ?_
  refine RL.callq (places_any b r c hl) Try.call24 rfl rfl rfl rfl rfl (.inr rfl) ?_
  rintro _ _ _ ⟨po, pc, rfl, rfl, rfl⟩
  refine RL.lenS Try.runUnderlying61 rfl rfl rfl rfl ?_
  refine RL.move rfl rfl rfl rfl ?_
  refine RL.nil ?_
  refine NQ.seq ?_
  refine CW.block ?_
  refine CW.ownNone (e := 41) 23 ?_
  refine CW.fact (p := po = none → c.length = 0) (fun w hC e => by subst e; exact own_none (hC.s.h _ (List.Mem.tail _ (List.Mem.head _)))) (fun hpo => ?_)
  refine CW.loop (γ := Nat × Bq × Bq × Option Nat × Nat) (fun g => TakeI c iv g.1 g.2.1 g.2.2.1) (fun g => [(0, .pointer (some ⟨b, 0, none⟩)), (1, .int .u32 iv), (5, slO g.2.2.2.1 g.1 g.2.2.2.2), (9, slO po c.length pc), (10, .int .i64 (c.length : Int)), (11, .int .i64 (g.1 : Int))]) (fun _ => [])
    (fun g => [own g.2.2.2.1 g.2.2.2.2 41 23 g.1 (g.2.1.flatMap itc), own po pc 28 2 c.length ((plsQ c).flatMap plcq), mapQ r g.2.2.1, bufI b r]) (fun g => c.length - g.1) (0, [], c, none, 0) (TakeI.zero c iv)
    (.cons rfl (.cons rfl (.cons rfl (.cons rfl (.cons rfl (.cons rfl .nil)))))) (fun w h => h.rea (fun _ h => h) (by repeat (first | exact Rea.nil | (apply Rea.cons; (solve | (repeat (first | exact Del.here | apply Del.there))))))) ?_
  rintro ⟨i, T, c', ob, cp⟩ hI
  dsimp only at hI ⊢
  have hi := hI.hi
  have hTl := hI.len
  refine CW.seq ?_
  refine CW.region (ef := []) (bk := []) ?_
  refine RL.bin rfl rfl rfl rfl rfl rfl ?_
  refine RL.nil ?_
  refine NQ.seq ?_
  refine CW.seq ?_
  refine CW.cond rfl (fun hlt => ?_) (fun hlt => ?_)
  ·
    have hlt : i < c.length := by simp at hlt; omega
    obtain ⟨pb, rfl⟩ : ∃ q, po = some q := by
      cases po with
      | none => exact absurd (hpo rfl) (by omega)
      | some q => exact ⟨q, rfl⟩
    have hp := List.getElem?_eq_getElem (show i < (plsQ c).length by rw [plsQ_len]; exact hlt)
    generalize (plsQ c)[i]'(show i < (plsQ c).length by rw [plsQ_len]; exact hlt) = p at hp
    refine CW.skip ?_
    refine NQ.seq ?_
    refine CW.seq ?_
    refine CW.block ?_
    refine CW.seq ?_
    refine CW.region (ef := [2, 3]) (bk := [3]) ?_
    refine RL.idxAt (j := i) Try.runUnderlying61 Try.sizeOf28 rfl rfl rfl rfl rfl rfl (hlt) ?_
    refine RL.loadN (vs := [.int .u32 p.1, .int .u8 p.2]) Try.isAgg28 Try.sizeOf28 rfl rfl rfl rfl (own_rds (f := plcq) (List.Mem.tail _ (List.Mem.head _)) hp (fun _ _ => rfl)) ?_
    refine RL.alloc Try.zeroValue28 rfl rfl rfl rfl rfl ?_
    intro b1
    refine RL.store (vs := [_, _]) Try.sizeOf28 rfl rfl rfl rfl rfl rfl rfl rfl rfl (by repeat (first | exact Upd.here | apply Upd.there)) ?_
    refine RL.nil ?_
    refine NQ.seq ?_
    refine CW.seq ?_
    refine CW.seq ?_
    refine CW.region (ef := []) (bk := []) ?_
    refine RL.fieldAddr fa_28_0 rfl rfl rfl rfl ?_
    refine RL.loadq Try.isAgg26 rfl rfl rfl rfl ?_
    refine RL.move rfl rfl rfl rfl ?_
    refine RL.bin rfl rfl rfl rfl rfl rfl ?_
    refine RL.nil ?_
    refine NQ.seq ?_
    refine CW.only (.cons (k := 0) rfl (.cons (k := 1) rfl (.cons (k := 5) rfl (.cons (k := 7) rfl (.cons (k := 9) rfl (.cons (k := 10) rfl (.cons (k := 11) rfl (.cons (k := 18) rfl .nil)))))))) ?_
    refine CW.cond rfl (fun hgt => ?_) (fun hgt => ?_)
    ·
      refine CW.exit ?_
      refine XQ.seq ?_
      refine XQ.miss rfl ?_
      refine XQ.seq ?_
      refine XQ.seq ?_
      refine XQ.hit ?_
      refine NQ.seq ?_
      refine CW.only (.cons (k := 5) rfl .nil) ?_
      refine CW.seq ?_
      refine CW.region (ef := []) (bk := []) ?_
      refine RL.move rfl rfl rfl rfl ?_
      refine RL.assign rfl rfl rfl rfl ?_
      refine RL.nil ?_
      refine NQ.seq ?_
      refine CW.ret ?_
      have hgt : iv < p.1 := by simpa using hgt
      have hF := hI.fin hnd (fun q hq => by rw [hp] at hq; cases hq; exact hgt)
      subst hTl
      refine RQ.rea (fun _ h => h) (H' := [own ob cp 41 23 T.length (T.flatMap itc), bufI b r, mapQ r c']) (by repeat (first | exact Rea.nil | (apply Rea.cons; (solve | (repeat (first | exact Del.here | apply Del.there)))))) ?_
      exact RQ.post (res1 rfl rfl) (.keep (.keep (.keep .nil))) ⟨ob, cp, T, c', hF, rfl, rfl, rfl⟩
    ·
      have hgt : p.1 ≤ iv := by simpa using hgt
      obtain ⟨x, hlk, hxc, hI2⟩ := hI.next hnd hp hgt
      have hx : x.Ok := hc _ hxc
      have h23 := itc_len (x := (p, x)) hx
      have hlv : (lookV (plq p) (encQ c')).getD (frV fro0) = frV x := by rw [atQ_enc, hlk]; rfl
      refine CW.skip ?_
      refine NQ.seq ?_
      refine CW.seq ?_
      refine CW.regionD (Sq.of [0, 1, 2, 3, 4, 5, 6, 7, 8, 9, 10, 11]) [9, 10] [10] [0, 2, 3, 4, 8, 11] mixed (by kernel_rfl) ?_
      refine RL.move rfl rfl rfl rfl ?_
      first | refine RL.loadM Try.isAgg28 Try.sizeOf28 rfl rfl rfl rfl (by assumption) ?_ | refine RL.loadA Try.isAgg28 Try.sizeOf28 rfl rfl rfl rfl (by first | assumption | (apply RdsI.rds; assumption)) (by first | rfl | assumption | (simp only [List.length_map]; assumption) | (simp only [List.length_map, List.length_replicate]; done) | (simp; done)) ?_ | refine RL.loadW Try.isAgg28 Try.sizeOf28 rfl rfl rfl rfl (by (solve | (repeat (first | exact List.Mem.head _ | apply List.Mem.tail)))) (by first | rfl | assumption | (simp only [List.length_map]; assumption) | (simp only [List.length_map, List.length_replicate]; done) | (simp; done)) ?_
      refine RL.move rfl rfl rfl rfl ?_
      refine RL.nilCheck rfl rfl rfl rfl ?_
      refine RL.fieldAddr fa_68_0 rfl rfl rfl rfl ?_
      refine RL.loadq Try.isAgg66 rfl rfl rfl rfl ?_
      first | refine RL.loadM Try.isAgg28 Try.sizeOf28 rfl rfl rfl rfl (by assumption) ?_ | refine RL.loadA Try.isAgg28 Try.sizeOf28 rfl rfl rfl rfl (by first | assumption | (apply RdsI.rds; assumption)) (by first | rfl | assumption | (simp only [List.length_map]; assumption) | (simp only [List.length_map, List.length_replicate]; done) | (simp; done)) ?_ | refine RL.loadW Try.isAgg28 Try.sizeOf28 rfl rfl rfl rfl (by (solve | (repeat (first | exact List.Mem.head _ | apply List.Mem.tail)))) (by first | rfl | assumption | (simp only [List.length_map]; assumption) | (simp only [List.length_map, List.length_replicate]; done) | (simp; done)) ?_
      refine RL.lookup keyQ Try.runUnderlying66 Try.zeroValue34 rfl rfl rfl rfl rfl ⟨p, rfl⟩ (MapAt.own (by repeat (first | exact List.Mem.head _ | apply List.Mem.tail))) ?_
      refine RL.cast (d := 26) rfl hlv ?_
      refine RL.buildS (itc (p, x)) Try.zeroValue41 pl_41 rfl rfl rfl rfl (fill_it hx rfl) ?_
      refine RL.buildSlice (itc (p, x)) Try.runUnderlying38 Try.sizeOf41 Try.zeroValue41 rfl rfl (by decide) (by decide) rfl rfl rfl rfl rfl (fill_one23 h23 rfl) ?_
      intro b2
      refine RL.appendA el_38 rfl rfl rfl rfl rfl rfl rfl (by first | exact ⟨(.take (Pick.none _)), rfl⟩ | exact ⟨(.leave (.take (Pick.none _))), rfl⟩ | exact ⟨(.leave (.leave (.take (Pick.none _)))), rfl⟩ | exact ⟨(.leave (.leave (.leave (.take (Pick.none _))))), rfl⟩ | exact ⟨(.leave (.leave (.leave (.leave (.take (Pick.none _)))))), rfl⟩ | exact ⟨(.leave (.leave (.leave (.leave (.leave (.take (Pick.none _))))))), rfl⟩ | exact ⟨(.leave (.leave (.leave (.leave (.leave (.leave (.take (Pick.none _)))))))), rfl⟩ | exact ⟨(.leave (.leave (.leave (.leave (.leave (.leave (.leave (.take (Pick.none _))))))))), rfl⟩ | exact ⟨(.leave (.leave (.leave (.leave (.leave (.leave (.leave (.leave (.take (Pick.none _)))))))))), rfl⟩ | exact ⟨(.leave (.leave (.leave (.leave (.leave (.leave (.leave (.leave (.leave (.take (Pick.none _))))))))))), rfl⟩) (Src.cel (List.Mem.head _) h23) (ones_it _) (by first | omega | (simp only [maxLen]; omega)) (by first | omega | (simp only [maxLen]; omega)) ?_
      intro ob1 cap1 ho1
      refine RL.assign rfl rfl rfl rfl ?_
      refine RL.nil ?_
      refine NQ.seq ?_
      refine CW.only (.cons (k := 0) rfl (.cons (k := 1) rfl (.cons (k := 5) rfl (.cons (k := 7) rfl (.cons (k := 9) rfl (.cons (k := 10) rfl (.cons (k := 11) rfl .nil))))))) ?_
      refine CW.regionD (Sq.of [0, 1, 2, 3, 4, 5]) [5] [5] [0, 1, 2] mixed (by kernel_rfl) ?_
      refine RL.move rfl rfl rfl rfl ?_
      refine RL.nilCheck rfl rfl rfl rfl ?_
      refine RL.fieldAddr fa_68_0 rfl rfl rfl rfl ?_
      refine RL.loadq Try.isAgg66 rfl rfl rfl rfl ?_
      first | refine RL.loadM Try.isAgg28 Try.sizeOf28 rfl rfl rfl rfl (by assumption) ?_ | refine RL.loadA Try.isAgg28 Try.sizeOf28 rfl rfl rfl rfl (by first | assumption | (apply RdsI.rds; assumption)) (by first | rfl | assumption | (simp only [List.length_map]; assumption) | (simp only [List.length_map, List.length_replicate]; done) | (simp; done)) ?_ | refine RL.loadW Try.isAgg28 Try.sizeOf28 rfl rfl rfl rfl (by (solve | (repeat (first | exact List.Mem.head _ | apply List.Mem.tail)))) (by first | rfl | assumption | (simp only [List.length_map]; assumption) | (simp only [List.length_map, List.length_replicate]; done) | (simp; done)) ?_
      refine RL.delete keyQ Try.runUnderlying66 rfl rfl rfl rfl rfl rfl ⟨p, rfl⟩ (by repeat (first | exact Upd.here | apply Upd.there)) ?_
      refine RL.nil ?_
      refine NQ.block ?_
      refine NQ.seq ?_
      refine CW.only (.cons (k := 0) rfl (.cons (k := 1) rfl (.cons (k := 5) rfl (.cons (k := 9) rfl (.cons (k := 10) rfl (.cons (k := 11) rfl .nil)))))) ?_
      refine CW.region (ef := []) (bk := []) ?_
      refine RL.binX rfl rfl rfl rfl rfl rfl (wrapV_i64 (by omega) (by omega)) ?_
      refine RL.move rfl rfl rfl rfl ?_
      refine RL.nil ?_
      refine NQ.round (g := (i, T, c', ob, cp)) (i + 1, T ++ [(p, x)], delQ p c', ob1, cap1) hI2 (by show c.length - (i + 1) < c.length - i; omega) (.cons rfl (.cons rfl (.cons rfl (.cons rfl (.cons rfl (.cons rfl .nil)))))) (fun w h => ?_)
      dsimp only
      rw [itc_snoc, show mapQ r (delQ p c') = mapI r goodQ (delV (plq p) (encQ c')) by rw [mapQ, delQ_enc]]
      exact h.rea (fun _ h => h) (by repeat (first | exact Rea.nil | (apply Rea.cons; (solve | (repeat (first | exact Del.here | apply Del.there))))))
  ·
    have hin : i = c.length := by simp at hlt; omega
    have hF := hI.fin hnd (fun q hq => by rw [List.getElem?_eq_none (by rw [plsQ_len]; omega)] at hq; cases hq)
    subst hTl
    refine CW.exit ?_
    refine XQ.seq ?_
    refine XQ.seq ?_
    refine XQ.hit ?_
    refine NQ.seq ?_
    refine CW.only (.cons (k := 5) rfl .nil) ?_
    refine CW.seq ?_
    refine CW.region (ef := []) (bk := []) ?_
    refine RL.move rfl rfl rfl rfl ?_
    refine RL.assign rfl rfl rfl rfl ?_
    refine RL.nil ?_
    refine NQ.seq ?_
    refine CW.ret ?_
    refine RQ.rea (fun _ h => h) (H' := [own ob cp 41 23 T.length (T.flatMap itc), bufI b r, mapQ r c']) (by repeat (first | exact Rea.nil | (apply Rea.cons; (solve | (repeat (first | exact Del.here | apply Del.there)))))) ?_
    exact RQ.post (res1 rfl rfl) (.keep (.keep (.keep .nil))) ⟨ob, cp, T, c', hF, rfl, rfl, rfl⟩
def dropIv (iv : Int) : Int := IntKind.u32.wrap (iv - 1)
/-- What a drop leaves. -/
inductive DropO (c : Bq) (iv : Int) : Nat → Bq → Prop
  | no (h : iv = 0) : DropO c iv 0 c
  | yes {T c' : Bq} (h : iv ≠ 0) (ht : TakeO c (dropIv iv) T c') : DropO c iv T.length c'
def DropR (b r : Nat) (c : Bq) (iv : Int) : Value → List It → List It → Prop := fun v I' H' => ∃ n c', DropO c iv n c' ∧ v = .int .i64 (n : Int) ∧ I' = [] ∧ H' = [bufI b r, mapQ r c']
theorem qdrop_any (b r : Nat) (c : Bq) (iv : Int) (hc : ∀ x ∈ c, x.2.Ok) (hl : c.length ≤ 100000) : Spc Try.prog 14 #[.pointer (some ⟨b, 0, none⟩), .int .u32 iv] [] [bufI b r, mapQ r c] (DropR b r c iv) := by
  refine Spc.enter Try.func14 rfl rfl rfl (fun w0 hw0 => ?_)
  refine CW.seq ?_
  refine CW.region (ef := []) (bk := []) ?_
  refine RL.assign rfl rfl rfl rfl ?_
  refine RL.nil ?_
  refine NQ.seq ?_
  refine CW.seq ?_
  refine CW.seq ?_
  refine CW.region (ef := []) (bk := []) ?_
  refine RL.move rfl rfl rfl rfl ?_
  refine RL.bin rfl rfl rfl rfl rfl rfl ?_
  refine RL.nil ?_
  refine NQ.seq ?_
  refine CW.cond rfl (fun h0 => ?_) (fun h0 => ?_)
  ·
    refine CW.seq ?_
    refine CW.region (ef := []) (bk := []) ?_
    refine RL.assign rfl rfl rfl rfl ?_
    refine RL.nil ?_
    refine NQ.seq ?_
    refine CW.ret ?_
    refine RQ.seq ?_
    have h0 : iv = 0 := by simpa using h0
    exact RQ.post (res1 rfl rfl) (.keep (.keep .nil)) ⟨0, c, .no h0, rfl, rfl, rfl⟩
  ·
    refine CW.skip ?_
    refine NQ.seq ?_
    refine CW.seq ?_
    refine CW.region (ef := [3]) (bk := [3]) ?_
    refine RL.move rfl rfl rfl rfl ?_
    refine RL.move rfl rfl rfl rfl ?_
    refine RL.bin rfl rfl rfl rfl rfl rfl ?_
    refine RL.callq (qtake_any b r c (IntKind.u32.wrap (iv - 1)) hc hl) Try.call11 rfl rfl rfl rfl rfl (.inr rfl) ?_
    have h0 : iv ≠ 0 := by simpa using h0
    rintro _ _ _ ⟨ob, cp, T, c', hT, rfl, rfl, rfl⟩
    refine RL.lenS Try.runUnderlying38 rfl rfl rfl rfl ?_
    refine RL.assign rfl rfl rfl rfl ?_
    refine RL.nil ?_
    refine NQ.seq ?_
    refine CW.only (.cons (k := 4) rfl .nil) ?_
    refine CW.ret ?_
    exact RQ.post (res1 rfl rfl) (.drop (.keep (.keep .nil))) ⟨T.length, c', .yes h0 hT, rfl, rfl, rfl⟩
end Go.Proofs.Ytggmnhogmjglmaa
