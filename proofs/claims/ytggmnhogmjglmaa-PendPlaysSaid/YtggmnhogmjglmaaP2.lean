import Derived.Test.YtggmnhogmjglmaaPSort
namespace Go.Proofs.Ytggmnhogmjglmaa
open Go.PK
theorem plcq_snoc (l : List Pq) (p : Pq) : (l ++ [p]).flatMap plcq = l.flatMap plcq ++ [.int .u32 p.1, .int .u8 p.2] := by simp [plcq]
/-- Places in order. -/
def plsQ (c : Bq) : List Pq := (keysQ c).mergeSort lexLe
theorem plsQ_len (c : Bq) : (plsQ c).length = c.length := by simp [plsQ, keysQ]
theorem places_any (b r : Nat) (c : Bq) (hl : c.length ≤ 100000) : Spc Try.prog 24 #[.pointer (some ⟨b, 0, none⟩)] [] [bufI b r, mapQ r c]
    (fun v I' H' => ∃ ob cap, v = slO ob c.length cap ∧ I' = [] ∧ H' = [own ob cap 28 2 c.length ((plsQ c).flatMap plcq), mapQ r c, bufI b r]) := by
  refine Spc.enter Try.func24 rfl rfl rfl (fun w0 hw0 => ?_)
  refine CW.seq ?_
  refine CW.region (ef := []) (bk := []) ?_
  refine RL.assign rfl rfl rfl rfl ?_
  refine RL.nil ?_
  refine NQ.seq ?_
  refine CW.seq ?_
  refine CW.region (ef := []) (bk := []) ?_
  refine RL.assign rfl rfl rfl rfl ?_
  refine RL.nil ?_
  refine NQ.seq ?_
  refine CW.seq ?_
  refine CW.seq ?_
  refine CW.region (ef := []) (bk := []) ?_
  refine RL.move rfl rfl rfl rfl ?_
  refine RL.callvq (qis_yes _ _) Try.call36 rfl rfl rfl rfl ?_
  refine RL.not rfl rfl rfl rfl ?_
  refine RL.nil ?_
  refine NQ.seq ?_
  refine CW.condF rfl (rfl) ?_
  refine CW.ownNone (e := 28) 2 ?_
  refine CW.skip ?_
  refine NQ.seq ?_
  refine CW.seq ?_
  refine CW.seq ?_
  refine CW.region (ef := [4]) (bk := [4]) ?_
  refine RL.move rfl rfl rfl rfl ?_
  refine RL.nilCheck rfl rfl rfl rfl ?_
  refine RL.fieldAddr fa_68_0 rfl rfl rfl rfl ?_
  refine RL.loadq Try.isAgg66 rfl rfl rfl rfl ?_
  refine RL.range Try.runUnderlying66 rfl rfl rfl rfl rfl rfl (by repeat (first | exact Pick.nil | apply Pick.take | apply Pick.leave)) (fun it => ?_)
  refine RL.nil ?_
  refine NQ.seq ?_
  refine CW.only (.cons (k := 2) rfl (.cons (k := 3) rfl (.cons (k := 13) rfl .nil))) ?_
  refine CW.block ?_
  refine CW.loop (γ := Bq × List Pq × Option Nat × Nat × Nat) (fun g => (g.2.1 ++ keysQ g.1).Perm (keysQ c) ∧ g.2.2.2.2 = g.2.1.length) (fun g => [(3, slO g.2.2.1 g.2.2.2.2 g.2.2.2.1), (13, .pointer (some ⟨it, 0, none⟩))]) (fun _ => [])
    (fun g => [mapIt r it goodQ (encQ c) (encQ g.1), own g.2.2.1 g.2.2.2.1 28 2 g.2.2.2.2 (g.2.1.flatMap plcq), bufI b r]) (fun g => g.1.length) (c, [], none, 0, 0) ⟨List.Perm.refl _, rfl⟩ (.cons rfl (.cons rfl .nil)) (fun w h => h.rea (fun _ h => h) (by repeat (first | exact Rea.nil | (apply Rea.cons; (solve | (repeat (first | exact Del.here | apply Del.there))))))) ?_
  rintro ⟨L, acc, ob, cp, n⟩ ⟨hp, hn⟩
  dsimp only at hp hn ⊢
  have hlen : n + L.length = c.length := by
    have := hp.length_eq
    rw [List.length_append] at this
    simp [keysQ] at this
    omega
  refine CW.seq ?_
  refine CW.region (ef := [0]) (bk := [0]) ?_
  refine RL.nextC rfl rfl rfl rfl rfl rfl (.take (Pick.none _)) (fun hl0 => ?_) (fun q p hq => ?_)
  · have hL : L = [] := by cases L with
      | nil => rfl
      | cons => cases hl0
    subst hL
    obtain rfl : n = c.length := by simpa using hlen
    refine RL.extract rfl rfl rfl rfl rfl ?_
    refine RL.nil ?_
    refine NQ.seq ?_
    refine CW.seq ?_
    refine CW.condF rfl ((by simp)) ?_
    refine CW.exit ?_
    refine XQ.seq ?_
    refine XQ.seq ?_
    refine XQ.hit ?_
    refine NQ.seq ?_
    refine CW.seq ?_
    refine CW.unrange ?_
    refine CW.region (ef := [1]) (bk := [1]) ?_
    refine RL.move rfl rfl rfl rfl ?_
    refine RL.callq (sortQ_o ob cp c.length acc hn.symm (by omega)) Try.call39 rfl rfl rfl rfl rfl (.inr rfl) ?_
    rintro _ _ _ ⟨rfl, rfl, rfl⟩
    refine RL.nil ?_
    refine NQ.seq ?_
    refine CW.seq ?_
    refine CW.region (ef := []) (bk := []) ?_
    refine RL.move rfl rfl rfl rfl ?_
    refine RL.assign rfl rfl rfl rfl ?_
    refine RL.nil ?_
    refine NQ.seq ?_
    refine CW.only (.cons (k := 2) rfl .nil) ?_
    refine CW.ret ?_
    have hs : acc.mergeSort lexLe = plsQ c := sort_perm (by simpa [keysQ] using hp)
    rw [hs]
    exact RQ.post (res1 rfl rfl) (.keep (.keep (.keep .nil))) ⟨ob, cp, rfl, rfl, rfl⟩
  ·
    obtain ⟨⟨⟨s, a⟩, x⟩, hq', rfl⟩ : ∃ x, L[q]? = some x ∧ (plq x.1, frV x.2) = p := by
      rw [encQ, List.getElem?_map] at hq
      cases hx : L[q]? with
      | none => rw [hx] at hq; cases hq
      | some x => rw [hx] at hq; exact ⟨x, rfl, by simpa using hq⟩
    have hsz : (L.eraseIdx q).length < L.length := by rw [List.length_eraseIdx_of_lt (List.getElem?_eq_some_iff.1 hq').1]; have := (List.getElem?_eq_some_iff.1 hq').1; omega
    have hpm : (keysQ L).Perm ((s, a) :: keysQ (L.eraseIdx q)) := (perm_erase' hq').map Prod.fst
    rw [show (encQ L).eraseIdx q = encQ (L.eraseIdx q) from (map_eraseIdx' _ _ _).symm]
    refine RL.extract rfl rfl rfl rfl rfl ?_
    refine RL.nil ?_
    refine NQ.seq ?_
    refine CW.seq ?_
    refine CW.condT rfl ((by simp)) ?_
    refine CW.skip ?_
    refine NQ.seq ?_
    refine CW.block ?_
    refine CW.seq ?_
    refine CW.region (ef := [2, 3]) (bk := [3]) ?_
    refine RL.entry rfl rfl rfl rfl (List.Mem.head _) ?_
    refine RL.extract rfl rfl rfl rfl rfl ?_
    refine RL.alloc Try.zeroValue28 rfl rfl rfl rfl rfl ?_
    intro b1
    refine RL.store (vs := [_, _]) Try.sizeOf28 rfl rfl rfl rfl rfl rfl rfl rfl rfl (by repeat (first | exact Upd.here | apply Upd.there)) ?_
    refine RL.nil ?_
    refine NQ.seq ?_
    refine CW.region (ef := [2, 3]) (bk := [3]) ?_
    refine RL.move rfl rfl rfl rfl ?_
    refine RL.loadN (vs := [_, _]) Try.isAgg28 Try.sizeOf28 rfl rfl rfl rfl (by first | (apply Rds.cel; (solve | (repeat (first | exact List.Mem.head _ | apply List.Mem.tail))); exact at_spec ⟨rfl, rfl, trivial⟩) | (apply Rds.celI; (solve | (repeat (first | exact List.Mem.head _ | apply List.Mem.tail))); exact at_spec ⟨rfl, rfl, trivial⟩) | assumption | (apply RdsI.rds; assumption)) ?_
    refine RL.buildSlice [_, _] Try.runUnderlying61 Try.sizeOf28 Try.zeroValue28 rfl rfl (by decide) (by decide) rfl rfl rfl rfl rfl rfl ?_
    intro b2
    refine RL.appendq el_61 rfl rfl rfl rfl rfl rfl rfl ?_ (hs := (by first | (exact Src.cel (by (solve | (repeat (first | exact List.Mem.head _ | apply List.Mem.tail)))) (by first | rfl | assumption | (simp only [List.length_map]; assumption) | (simp only [List.length_map, List.length_replicate]; done) | (simp; done))) | (exact Src.ownS (by (solve | (repeat (first | exact List.Mem.head _ | apply List.Mem.tail))))) | (exact Src.own (by (solve | (repeat (first | exact List.Mem.head _ | apply List.Mem.tail))))) | (exact Src.sls (by (solve | (repeat (first | exact List.Mem.head _ | apply List.Mem.tail))))) | (exact Src.celI (by (solve | (repeat (first | exact List.Mem.head _ | apply List.Mem.tail)))) (by first | rfl | assumption | (simp only [List.length_map]; assumption) | (simp only [List.length_map, List.length_replicate]; done) | (simp; done)))))
    intro ob1 cap1 ho1
    refine RL.assign rfl rfl rfl rfl ?_
    refine RL.nil ?_
    refine NQ.block ?_
    refine NQ.round (g := (L, acc, ob, cp, n)) (L.eraseIdx q, acc ++ [(s, a)], ob1, cap1, n + 1) ⟨?_, by simp [hn]⟩ hsz (.cons rfl (.cons rfl .nil)) (fun w h => (h.rea (H' := [mapCt r it goodQ (encQ c) (encQ (L.eraseIdx q)) (plq (s, a), frV x), own ob1 cap1 28 2 (n + 1) ((acc ++ [(s, a)]).flatMap plcq), bufI b r]) (fun _ h => h) (by rw [plcq_snoc]; exact (by repeat (first | exact Rea.nil | (apply Rea.cons; (solve | (repeat (first | exact Del.here | apply Del.there)))))))).uncur)
    refine List.Perm.trans ?_ hp
    dsimp only
    rw [List.append_assoc]
    exact List.Perm.append_left _ hpm.symm
/-! ### Put -/
def putE (l : List Pq) (p : Pq) : Int := if p.1 = 0 then 2 else if p ∈ l then 6 else if l.length = 16 then 4 else 0
/-- What a put leaves: 'I' what is told of from now on. -/
inductive PutO (c : Bq) (p : Pq) (f : Fr) : Int → Bq → List It → Prop
  | no {e : Int} (h : putE (keysQ c) p = e) (h0 : e ≠ 0) : PutO c p f e c []
  | yes (x : FrO) (hf : x.f = f) (h : putE (keysQ c) p = 0) : PutO c p f 0 (c ++ [(p, x)]) [bodyO x]
def PutR (b r : Nat) (c : Bq) (p : Pq) (f : Fr) : Value → List It → List It → Prop := fun v I' H' => ∃ e c', v = .int .i64 e ∧ PutO c p f e c' I' ∧ H' = [bufI b r, mapQ r c']
theorem qput_any (b r : Nat) (c : Bq) (p : Pq) (f : Fr) (q : Option Addr) (cc n : Nat) (hf : f.Ok) (hn : f.b.length = n) (hb : n ≤ 100000) (hc : ∀ x ∈ c, x.2.Ok) :
    Spc Try.prog 15 #[.pointer (some ⟨b, 0, none⟩), plq p, .agg (f.cells (.slice q n cc)).toArray] [sls q 1 n (bytes f.b)] [bufI b r, mapQ r c] (PutR b r c p f) := by
  subst hn
  have hl := fr_len hf.tag (.slice q f.b.length cc)
  have hx0 : ((lkQ p c).getD fro0).Ok := by
    cases h : lkQ p c with
    | none => exact fro0_ok
    | some x => exact hc _ (lkQ_some h)
  have hl0 := fro_len hx0
  unfold plq
  refine Spc.enter Try.func15 rfl rfl rfl (fun w0 hw0 => ?_)
  refine CW.seq ?_
  refine CW.region (ef := [0, 1]) (bk := []) ?_
  refine RL.box rfl rfl rfl rfl rfl rfl ?_
  intro b1
  refine RL.box rfl rfl rfl rfl rfl rfl ?_
  intro b2
  refine RL.assign rfl rfl rfl rfl ?_
  refine RL.nil ?_
  refine NQ.seq ?_
  refine CW.seq ?_
  refine CW.freezeP (A := [_, _]) (B := [_, _]) (.take (.take (.leave (.leave .nil)))) rfl ?_
  refine CW.genI (fun J hJ => ?_)
  have mS : sls q 1 f.b.length (bytes f.b) ∈ J := hJ _ (by simp)
  have mP : cel b1 [.int .u32 p.1, .int .u8 p.2] 28 ∈ J := hJ _ (by simp)
  have mF : cel b2 (f.cells (.slice q f.b.length cc)) 34 ∈ J := hJ _ (by simp)
  have rP : RdsN J ⟨b1, 0, none⟩ 2 [.int .u32 p.1, .int .u8 p.2] := ⟨fun _ => Rds.allI mP, rfl⟩
  have rF : RdsN J ⟨b2, 0, none⟩ 21 (f.cells (.slice q f.b.length cc)) := ⟨fun _ => Rds.allI mF, hl⟩
  have r0 : RdI J ⟨b1, 0 + 0, none⟩ (.int .u32 p.1) := ⟨fun _ => Rd.celI mP rfl⟩
  clear hJ
  refine CW.block ?_
  refine CW.seq ?_
  refine CW.region (ef := []) (bk := []) ?_
  refine RL.move rfl rfl rfl rfl ?_
  refine RL.callvq (qis_yes b r) Try.call36 rfl rfl rfl rfl ?_
  refine RL.not rfl rfl rfl rfl ?_
  refine RL.assign rfl rfl rfl rfl ?_
  refine RL.nil ?_
  refine NQ.seq ?_
  refine CW.condF rfl (rfl) ?_
  refine CW.seq ?_
  refine CW.region (ef := []) (bk := []) ?_
  refine RL.fieldAddr fa_28_0 rfl rfl rfl rfl ?_
  refine RL.loadq Try.isAgg26 rfl rfl rfl rfl ?_
  refine RL.bin rfl rfl rfl rfl rfl rfl ?_
  refine RL.assign rfl rfl rfl rfl ?_
  refine RL.nil ?_
  refine NQ.seq ?_
  refine CW.only (.cons (k := 0) rfl (.cons (k := 4) rfl (.cons (k := 5) rfl (.cons (k := 6) rfl (.cons (k := 13) rfl .nil))))) ?_
  refine CW.cond rfl (fun h0 => ?_) (fun h0 => ?_)
  ·
    refine CW.seq ?_
    refine CW.region (ef := []) (bk := []) ?_
    refine RL.assign rfl rfl rfl rfl ?_
    refine RL.nil ?_
    refine NQ.seq ?_
    refine CW.ret ?_
    refine RQ.block ?_
    refine RQ.seq ?_
    have h0 : p.1 = 0 := by simpa using h0
    exact RQ.post (res1 rfl rfl) (.keep (.keep .nil)) ⟨2, c, rfl, .no (by rw [putE, if_pos h0]) (by decide), rfl⟩
  ·
    have h0 : ¬ p.1 = 0 := by simpa using h0
    have hlk : Value.tuple #[(lookV (plq p) (encQ c)).getD (frV fro0), .bool (lookV (plq p) (encQ c)).isSome] = .tuple #[frV ((lkQ p c).getD fro0), .bool (lkQ p c).isSome] := by rw [atQ_enc, isQ_enc]
    refine CW.skip ?_
    refine NQ.block ?_
    refine NQ.seq ?_
    refine CW.seq ?_
    refine CW.seq ?_
    refine CW.regionD (Sq.of [0, 1, 2, 3, 4, 5, 6, 7, 8, 9, 10, 11]) [9, 10] [10] [0, 1, 2, 6, 7, 8, 11] mixed (by kernel_rfl) ?_
    refine RL.move rfl rfl rfl rfl ?_
    refine RL.nilCheck rfl rfl rfl rfl ?_
    refine RL.fieldAddr fa_68_0 rfl rfl rfl rfl ?_
    refine RL.loadq Try.isAgg66 rfl rfl rfl rfl ?_
    first | refine RL.loadM Try.isAgg28 Try.sizeOf28 rfl rfl rfl rfl (by assumption) ?_ | refine RL.loadA Try.isAgg28 Try.sizeOf28 rfl rfl rfl rfl (by first | assumption | (apply RdsI.rds; assumption)) (by first | rfl | assumption | (simp only [List.length_map]; assumption) | (simp only [List.length_map, List.length_replicate, hl, hl0]; done) | (simp; done)) ?_ | refine RL.loadW Try.isAgg28 Try.sizeOf28 rfl rfl rfl rfl (by (solve | (repeat (first | exact List.Mem.head _ | apply List.Mem.tail)))) (by first | rfl | assumption | (simp only [List.length_map]; assumption) | (simp only [List.length_map, List.length_replicate, hl, hl0]; done) | (simp; done)) ?_
    refine RL.lookupOk keyQ Try.runUnderlying66 Try.zeroValue34 rfl rfl rfl rfl rfl ⟨p, rfl⟩ (MapAt.own (by repeat (first | exact List.Mem.head _ | apply List.Mem.tail))) ?_
    refine RL.cast (d := 23) rfl hlk ?_
    refine RL.move rfl rfl rfl rfl ?_
    refine RL.extract rfl rfl rfl rfl rfl ?_
    refine RL.extract rfl rfl rfl rfl rfl ?_
    refine RL.alloc Try.zeroValue34 rfl rfl rfl rfl rfl ?_
    intro b3
    refine RL.storeW Try.sizeOf34 rfl rfl rfl rfl rfl rfl rfl (ones_fr _ rfl) (by repeat (first | exact Upd.here | apply Upd.there)) (by first | rfl | assumption | (simp only [List.length_map]; assumption) | (simp only [List.length_map, List.length_replicate, hl, hl0]; done) | (simp; done)) rfl ?_
    refine RL.assign rfl rfl rfl rfl ?_
    refine RL.nil ?_
    refine NQ.seq ?_
    refine CW.only (.cons (k := 0) rfl (.cons (k := 4) rfl (.cons (k := 5) rfl (.cons (k := 6) rfl (.cons (k := 8) rfl .nil))))) ?_
    refine CW.seq ?_
    refine CW.region (ef := []) (bk := []) ?_
    refine RL.move rfl rfl rfl rfl ?_
    refine RL.nil ?_
    refine NQ.seq ?_
    refine CW.cond rfl (fun hi => ?_) (fun hi => ?_)
    ·
      refine CW.seq ?_
      refine CW.region (ef := []) (bk := []) ?_
      refine RL.assign rfl rfl rfl rfl ?_
      refine RL.nil ?_
      refine NQ.seq ?_
      refine CW.ret ?_
      refine RQ.seq ?_
      have hm : p ∈ keysQ c := by
        rcases Decidable.em (p ∈ keysQ c) with h | h
        · exact h
        · rw [lkQ_none.2 h] at hi; cases hi
      exact RQ.post (res1 rfl rfl) (.drop (.keep (.keep .nil))) ⟨6, c, rfl, .no (by rw [putE, if_neg h0, if_pos hm]) (by decide), rfl⟩
    ·
      have hm : p ∉ keysQ c := by
        refine lkQ_none.1 ?_
        cases h : lkQ p c with
        | none => rfl
        | some x => rw [h] at hi; cases hi
      refine CW.skip ?_
      refine NQ.seq ?_
      refine CW.seq ?_
      refine CW.seq ?_
      refine CW.region (ef := []) (bk := []) ?_
      refine RL.move rfl rfl rfl rfl ?_
      refine RL.nilCheck rfl rfl rfl rfl ?_
      refine RL.fieldAddr fa_68_0 rfl rfl rfl rfl ?_
      refine RL.loadq Try.isAgg66 rfl rfl rfl rfl ?_
      refine RL.lenM (n := c.length) Try.runUnderlying66 rfl rfl rfl rfl (MapAt.own (by repeat (first | exact List.Mem.head _ | apply List.Mem.tail))) (by simp [encQ]) ?_
      refine RL.bin rfl rfl rfl rfl rfl rfl ?_
      refine RL.nil ?_
      refine NQ.seq ?_
      refine CW.only (.cons (k := 0) rfl (.cons (k := 4) rfl (.cons (k := 5) rfl (.cons (k := 6) rfl (.cons (k := 32) rfl .nil))))) ?_
      refine CW.cond rfl (fun h16 => ?_) (fun h16 => ?_)
      ·
        refine CW.seq ?_
        refine CW.region (ef := []) (bk := []) ?_
        refine RL.assign rfl rfl rfl rfl ?_
        refine RL.nil ?_
        refine NQ.seq ?_
        refine CW.ret ?_
        refine RQ.seq ?_
        have h16 : (keysQ c).length = 16 := by simp [keysQ] at h16 ⊢; omega
        exact RQ.post (res1 rfl rfl) (.drop (.keep (.keep .nil))) ⟨4, c, rfl, .no (by rw [putE, if_neg h0, if_neg hm, if_pos h16]) (by decide), rfl⟩
      ·
        have h16 : ¬ (keysQ c).length = 16 := by simp [keysQ] at h16 ⊢; omega
        refine CW.skip ?_
        refine NQ.seq ?_
        refine CW.seq ?_
        refine CW.regionD (Sq.of [0, 1, 2, 3, 4, 5, 6, 7]) [6, 7] [7] [0, 1, 2] mixed (by kernel_rfl) ?_
        refine RL.move rfl rfl rfl rfl ?_
        refine RL.nilCheck rfl rfl rfl rfl ?_
        refine RL.fieldAddr fa_68_0 rfl rfl rfl rfl ?_
        refine RL.loadq Try.isAgg66 rfl rfl rfl rfl ?_
        first | refine RL.loadM Try.isAgg28 Try.sizeOf28 rfl rfl rfl rfl (by assumption) ?_ | refine RL.loadA Try.isAgg28 Try.sizeOf28 rfl rfl rfl rfl (by first | assumption | (apply RdsI.rds; assumption)) (by first | rfl | assumption | (simp only [List.length_map]; assumption) | (simp only [List.length_map, List.length_replicate, hl, hl0]; done) | (simp; done)) ?_ | refine RL.loadW Try.isAgg28 Try.sizeOf28 rfl rfl rfl rfl (by (solve | (repeat (first | exact List.Mem.head _ | apply List.Mem.tail)))) (by first | rfl | assumption | (simp only [List.length_map]; assumption) | (simp only [List.length_map, List.length_replicate, hl, hl0]; done) | (simp; done)) ?_
        first | refine RL.loadM Try.isAgg34 Try.sizeOf34 rfl rfl rfl rfl (by assumption) ?_ | refine RL.loadA Try.isAgg34 Try.sizeOf34 rfl rfl rfl rfl (by first | assumption | (apply RdsI.rds; assumption)) (by first | rfl | assumption | (simp only [List.length_map]; assumption) | (simp only [List.length_map, List.length_replicate, hl, hl0]; done) | (simp; done)) ?_ | refine RL.loadW Try.isAgg34 Try.sizeOf34 rfl rfl rfl rfl (by (solve | (repeat (first | exact List.Mem.head _ | apply List.Mem.tail)))) (by first | rfl | assumption | (simp only [List.length_map]; assumption) | (simp only [List.length_map, List.length_replicate, hl, hl0]; done) | (simp; done)) ?_
        refine RL.call (own_any f q cc f.b.length hf rfl hb) Try.call37 rfl rfl rfl rfl rfl (by repeat (first | exact Pick.nil | apply Pick.take | apply Pick.leave)) (Lend.inI mS .nil) (.inl rfl) ?_
        rintro _ _ _ ⟨ob1, cap1, rfl, rfl, rfl, ho1⟩
        refine RL.mapUpdate keyQ Try.runUnderlying66 rfl rfl rfl rfl rfl rfl rfl ⟨p, rfl⟩ (by repeat (first | exact Upd.here | apply Upd.there)) ?_
        refine RL.nil ?_
        refine NQ.seq ?_
        refine CW.only .nil ?_
        refine CW.seq ?_
        refine CW.region (ef := []) (bk := []) ?_
        refine RL.assign rfl rfl rfl rfl ?_
        refine RL.nil ?_
        refine NQ.seq ?_
        refine CW.ret ?_
        have he := setQ_enc (⟨f, ob1, cap1⟩ : FrO) hm
        refine RQ.rea (fun _ h => h) (H' := [bodyO ⟨f, ob1, cap1⟩, bufI b r, mapQ r (c ++ [(p, ⟨f, ob1, cap1⟩)])]) (by rw [mapQ, ← he]; exact (by repeat (first | exact Rea.nil | (apply Rea.cons; (solve | (repeat (first | exact Del.here | apply Del.there))))))) ?_
        exact RQ.post (res1 rfl rfl) (.give (.keep (.keep .nil))) ⟨0, _, rfl, .yes _ rfl (by rw [putE, if_neg h0, if_neg hm, if_neg h16]), rfl⟩
end Go.Proofs.Ytggmnhogmjglmaa
