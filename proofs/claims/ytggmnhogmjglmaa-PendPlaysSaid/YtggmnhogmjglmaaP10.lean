import Derived.Test.YtggmnhogmjglmaaP9
namespace Go.Proofs.Ytggmnhogmjglmaa
open Go.PK
theorem few20_o (x : FrA) (hx : x.Ok) : Spc Try.prog 16 #[.agg (x.f.cells x.sl).toArray] [sls x.p 1 x.f.b.length (bytes x.f.b)] [] (FewR (x.f.few 40) (x.f.few 40).b.length) := by
  have := few20_any x.f x.p x.c x.f.b.length hx.f rfl hx.c hx.b
  rw [show min x.f.b.length 40 = (x.f.few 40).b.length by simp [Fr.few]; omega] at this
  exact this
theorem lend_body {J F : List It} {c : Bq} {p : Pq} (h : ∀ x ∈ c, bodyO x.2 ∈ J) : Lend J F [bodyO ((lkQ p c).getD fro0)] := by
  cases hl : lkQ p c with
  | none => exact .of (fun _ _ => ⟨rfl, rfl, rfl⟩) (fun b hb => by simp [own, fro0] at hb) .nil
  | some x => exact .inI (h _ (lkQ_some hl)) .nil
theorem lend_sls {J F K : List It} {c : Bq} {p : Pq} (h : ∀ x ∈ c, bodyO x.2 ∈ J) (hK : Lend J F K) : Lend J F (sls (((lkQ p c).getD fro0).ob.map fun b => ⟨b, 0, none⟩) 1 ((lkQ p c).getD fro0).f.b.length (bytes ((lkQ p c).getD fro0).f.b) :: K) := by
  cases hl : lkQ p c with
  | none => exact .of (fun _ _ => ⟨rfl, rfl⟩) (fun b hb => by simp [sls, fro0, fr0] at hb) hK
  | some x => exact Lend.ownI (h _ (lkQ_some hl)) hK
theorem PutO.bod {c : Bq} {p : Pq} {f : Fr} {e : Int} {c' : Bq} {I' J : List It} (h : PutO c p f e c' I') (hc : ∀ x ∈ c, bodyO x.2 ∈ J) : ∀ x ∈ c', bodyO x.2 ∈ I' ++ J := by
  cases h with
  | no => exact hc
  | yes x => intro y hy
             rcases List.mem_append.1 hy with hy | hy
             · exact List.mem_append_right _ (hc y hy)
             · rw [List.mem_singleton] at hy; subst hy; simp
theorem RPutO.bod {c : Bq} {p : Pq} {f : Fr} {e : Int} {c' : Bq} {I' J : List It} (h : RPutO c p f e c' I') (hc : ∀ x ∈ c, bodyO x.2 ∈ J) : ∀ x ∈ c', bodyO x.2 ∈ I' ++ J := by
  cases h with
  | no => exact hc
  | yes x => intro y hy
             rcases List.mem_cons.1 ((insL_perm c p x).mem_iff.1 hy) with hy | hy
             · subst hy; simp
             · exact List.mem_append_right _ (hc y hy)
theorem rdrop_mem {R : Bq} {iv : Int} {q : Pq × FrO → Prop} (h : ∀ x ∈ R, q x) : ∀ x ∈ rDropL iv R, q x := fun x hx => by
  rw [rDropL] at hx
  split at hx
  · exact h x hx
  · exact h x (List.mem_filter.1 hx).1
structure PG where
  c : Bq
  R : Bq
  ob : Option Nat
  cp : Nat
  J : List It
  bb : Bool
structure PG.ok (J0 : List It) (z : PG) : Prop where
  a : PAl z.c z.R
  j : ∀ y ∈ J0, y ∈ z.J
  bc : ∀ x ∈ z.c, bodyO x.2 ∈ z.J
  br : ∀ x ∈ z.R, bodyO x.2 ∈ z.J
  bb : z.bb = false
theorem put_ok {c R : Bq} (h : PAl c R) {p : Pq} {f : Fr} {e e' : Int} {c' R' : Bq} {I1 I2 J : List It} {ob : Option Nat} {cp : Nat} (h1 : PutO c p f e c' I1) (h2 : RPutO R p f e' R' I2) (hf : f.Ok) (hb : f.b.length ≤ 100000) (hc : ∀ z ∈ c, bodyO z.2 ∈ J) (hr : ∀ z ∈ R, bodyO z.2 ∈ J) :
    PG.ok J ⟨c', R', ob, cp, I1 ++ (I2 ++ J), !(e == e')⟩ := by
  obtain ⟨he, hA⟩ := h.put h1 h2 hf hb
  refine ⟨hA, fun y hy => by simp [hy], h1.bod (fun z hz => List.mem_append_right _ (hc z hz)), fun z hz => List.mem_append_right _ (h2.bod hr z hz), by simp [he]⟩
abbrev PGI (b r y : Nat) (z : PG) : List It := bufI b r :: mapQ r z.c :: RBI y z.R z.ob z.cp
theorem pplays (p : Option Addr) (n : Nat) (L : List Act20) (hL : ∀ x ∈ L, x.Ok) (hc : L.length ≤ n) : Spc Try.prog 4 #[.slice p L.length n] (sls p 24 L.length (L.flatMap Act20.cells) :: L.flatMap Act20.its) [] (Is (.bool true)) := by
  generalize hJ : (sls p 24 L.length (L.flatMap Act20.cells) :: L.flatMap Act20.its) = J0
  have m1 : sls p 24 L.length (L.flatMap Act20.cells) ∈ J0 := by rw [← hJ]; exact List.Mem.head _
  have m3 : ∀ y ∈ L.flatMap Act20.its, y ∈ J0 := fun y hy => by rw [← hJ]; exact List.Mem.tail _ hy
  clear hJ
  refine Spc.enter Try.func4 rfl rfl rfl (fun w0 hw0 => ?_)
  refine CW.seq ?_
  refine CW.region (ef := []) (bk := []) ?_
  refine RL.assign rfl rfl rfl rfl ?_
  refine RL.nil ?_
  refine NQ.seq ?_
  refine CW.seq ?_
  refine CW.region (ef := [0, 2]) (bk := []) ?_
  refine RL.callq (qnew_any) Try.call9 rfl rfl rfl rfl rfl (.inl rfl) ?_
  rintro _ _ _ ⟨b, r, rfl, rfl, rfl⟩
  refine RL.buildS _ Try.zeroValue54 pl_54 rfl rfl rfl rfl rfl ?_
  refine RL.box rfl rfl rfl rfl rfl rfl ?_
  intro b1
  refine RL.assign rfl rfl rfl rfl ?_
  refine RL.assign rfl rfl rfl rfl ?_
  refine RL.nil ?_
  refine NQ.seq ?_
  refine CW.seq ?_
  refine CW.seq ?_
  refine CW.region (ef := []) (bk := []) ?_
  refine RL.assign rfl rfl rfl rfl ?_
  refine RL.nil ?_
  refine NQ.seq ?_
  refine CW.block ?_
  refine CW.ownNone (e := 65) 23 ?_
  refine CW.loop (γ := Nat × PG) (fun g => g.1 ≤ L.length ∧ g.1 ≤ 60 ∧ g.2.ok J0) (fun g => [(0, .slice p L.length n), (3, .pointer (some ⟨b, 0, none⟩)), (4, .pointer (some ⟨b1, 0, none⟩)), (5, .int .i64 (g.1 : Int))])
    (fun g => g.2.J) (fun g => PGI b r b1 g.2) (fun g => L.length - g.1) (0, ⟨[], [], none, 0, J0, false⟩) ⟨Nat.zero_le _, Nat.zero_le _, PAl.zero, fun _ h => h, fun x hx => (by cases hx), fun x hx => (by cases hx), rfl⟩
    (.cons rfl (.cons rfl (.cons rfl (.cons rfl .nil)))) (fun w h => h.rea (fun _ h => by simpa using h) (by repeat (first | exact Rea.nil | (apply Rea.cons; (solve | (repeat (first | exact Del.here | apply Del.there))))))) ?_
  rintro ⟨i, ⟨c, R, ob, cp, J, bb⟩⟩ ⟨hi, hb60, hA, hj, hbc, hbr, -⟩
  dsimp only at hi hb60 hA hj hbc hbr ⊢
  refine CW.fact (p := p = none → L.length = 0) (fun w hC e => sls_nil (hC.s.i _ (hj _ m1)) e) (fun hpa => ?_)
  refine CW.seq ?_
  refine CW.seq ?_
  refine CW.region (ef := []) (bk := []) ?_
  refine RL.move rfl rfl rfl rfl ?_
  refine RL.move rfl rfl rfl rfl ?_
  refine RL.lenS Try.runUnderlying22 rfl rfl rfl rfl ?_
  refine RL.bin rfl rfl rfl rfl rfl rfl ?_
  refine RL.move rfl rfl rfl rfl ?_
  apply RL.andB (d := 21) (dp := 24) (l' := (Sq.of [])) rfl (.cons (k := 0) rfl (.cons (k := 3) rfl (.cons (k := 4) rfl (.cons (k := 5) rfl .nil))))
  ·
    intro hb5 K5
    refine RL.move rfl rfl rfl rfl ?_
    refine RL.bin rfl rfl rfl rfl rfl rfl ?_
    refine RL.pickT rfl rfl rfl rfl rfl ?_
    exact K5 _ (.cons rfl (.cons (k := 0) rfl (.cons (k := 3) rfl (.cons (k := 4) rfl (.cons (k := 5) rfl .nil)))))
  ·
    intro hb5 K5
    refine RL.skip rfl rfl rfl rfl ?_
    refine RL.skip rfl rfl rfl rfl ?_
    refine RL.pickF rfl rfl rfl rfl rfl ?_
    exact K5 _ (.cons rfl (.cons (k := 0) rfl (.cons (k := 3) rfl (.cons (k := 4) rfl (.cons (k := 5) rfl .nil)))))
  refine RL.nil ?_
  refine NQ.seq ?_
  refine CW.cond rfl (fun hlt => ?_) (fun hlt => ?_)
  ·
    obtain ⟨hlt, hlt40⟩ : i < L.length ∧ i < 60 := by simp at hlt; omega
    cases p with
    | none => exact absurd (hpa rfl) (by omega)
    | some ad =>
    have hxa := List.getElem?_eq_getElem hlt
    generalize L[i] = x at hxa
    have hma := List.mem_of_getElem? hxa
    have hxo := hL x hma
    have hal := act20_len hxo
    have hfl := fr_len hxo.x.f.tag x.x.sl
    have mS : sls x.x.p 1 x.x.f.b.length (bytes x.x.f.b) ∈ J := hj _ (its20 m3 hma)
    have hfk : (x.x.f.few 40).Ok := ⟨hxo.x.f.ep, hxo.x.f.ct, hxo.x.f.tag⟩
    have hfb : (x.x.f.few 40).b.length ≤ 40 := by simp [Fr.few]; omega
    have hfl2 := fun sl => fr_len hfk.tag sl
    have w9 : RdsN J (ad.add (i * 24)) 24 x.cells := act20_rdsN hL (hj _ m1) hxa
    refine CW.skip ?_
    refine NQ.seq ?_
    refine CW.seq ?_
    refine CW.block ?_
    refine CW.seq ?_
    refine CW.region (ef := [4, 5]) (bk := [5]) ?_
    refine RL.move rfl rfl rfl rfl ?_
    refine RL.move rfl rfl rfl rfl ?_
    first | refine RL.idxAt (j := i) Try.runUnderlying22 Try.sizeOf36 rfl rfl rfl rfl rfl rfl (hlt) ?_ | refine RL.idx (j := i) Try.runUnderlying22 Try.sizeOf36 rfl rfl rfl rfl rfl rfl (hlt) ?_
    first | refine RL.loadM Try.isAgg36 Try.sizeOf36 rfl rfl rfl rfl (by assumption) ?_ | refine RL.loadA Try.isAgg36 Try.sizeOf36 rfl rfl rfl rfl (by first | assumption | (apply RdsI.rds; assumption)) (by first | rfl | assumption | (simp only [List.length_map]; assumption) | (simp only [List.length_map, List.length_replicate, hal, hfl2]; done) | (simp; done)) ?_ | refine RL.loadW Try.isAgg36 Try.sizeOf36 rfl rfl rfl rfl (by (solve | (repeat (first | exact List.Mem.head _ | apply List.Mem.tail)))) (by first | rfl | assumption | (simp only [List.length_map]; assumption) | (simp only [List.length_map, List.length_replicate, hal, hfl2]; done) | (simp; done)) ?_
    refine RL.alloc Try.zeroValue36 rfl rfl rfl rfl rfl ?_
    intro b2
    refine RL.storeW Try.sizeOf36 rfl rfl rfl rfl rfl rfl rfl (by first | rfl | exact ones_map one8 _ | exact ones_map (fun _ => rfl) _) (by repeat (first | exact Upd.here | apply Upd.there)) (by first | rfl | assumption | (simp only [List.length_map]; assumption) | (simp only [List.length_map, List.length_replicate, hal, hfl2]; done) | (simp; done)) (by first | rfl | assumption | (simp only [List.length_map]; assumption) | (simp only [List.length_map, List.length_replicate, hal, hfl2]; done) | (simp; done)) ?_
    refine RL.nil ?_
    refine NQ.seq ?_
    refine CW.seq ?_
    refine CW.freezeP (A := [_]) (B := [_, _, _, _]) (.take (.leave (.leave (.leave (.leave .nil))))) rfl ?_
    refine CW.genI (fun J2 hJ2 => ?_)
    have hJJ : ∀ y ∈ J, y ∈ J2 := fun y hy => hJ2 y (by simp [hy])
    have mA : cel b2 x.cells 36 ∈ J2 := hJ2 _ (by simp)
    clear hJ2
    have mS2 := hJJ _ mS
    have vP : ∀ (j : Nat) (u : Value), [Value.int .u32 x.p.1, .int .u8 x.p.2][j]? = some u → x.cells[0 + 1 + j]? = some u := fun j u hj => by
      match j, hj with
      | 0, hj => exact hj
      | 1, hj => exact hj
      | j + 2, hj => simp at hj
    have rP : RdsN J2 ⟨b2, 0 + 1, none⟩ 2 [.int .u32 x.p.1, .int .u8 x.p.2] := RdsN.told mA vP rfl
    have rI : RdI J2 ⟨b2, 0 + 1 + 0, none⟩ (.int .u32 x.p.1) := ⟨fun _ => Rd.getI mA rfl⟩
    have rD : RdI J2 ⟨b2, 0 + 0, none⟩ (.int .i64 x.d) := ⟨fun _ => Rd.getI mA rfl⟩
    have rF : RdsN J2 ⟨b2, 0 + 3, none⟩ 21 (x.x.f.cells x.x.sl) := RdsN.told mA (fun j u hj => by rw [show 0 + 3 + j = j + 1 + 1 + 1 by omega]; exact hj) hfl
    refine CW.region (ef := [2, 3, 4]) (bk := [4]) ?_
    first | refine RL.fieldAddr fa_36_2 rfl rfl rfl rfl ?_ | refine RL.fieldAddrG fa_36_2 rfl rfl rfl rfl ?_
    first | refine RL.loadM Try.isAgg34 Try.sizeOf34 rfl rfl rfl rfl (by assumption) ?_ | refine RL.loadA Try.isAgg34 Try.sizeOf34 rfl rfl rfl rfl (by first | assumption | (apply RdsI.rds; assumption)) (by first | rfl | assumption | (simp only [List.length_map]; assumption) | (simp only [List.length_map, List.length_replicate, hal, hfl2]; done) | (simp; done)) ?_ | refine RL.loadW Try.isAgg34 Try.sizeOf34 rfl rfl rfl rfl (by (solve | (repeat (first | exact List.Mem.head _ | apply List.Mem.tail)))) (by first | rfl | assumption | (simp only [List.length_map]; assumption) | (simp only [List.length_map, List.length_replicate, hal, hfl2]; done) | (simp; done)) ?_
    refine RL.call (few20_o x.x hxo.x) Try.call16 rfl rfl rfl rfl rfl (by repeat (first | exact Pick.nil | apply Pick.take | apply Pick.leave)) (Lend.inI mS2 .nil) (.inl rfl) ?_
    rintro _ _ _ ⟨ob1, cap1, rfl, rfl, rfl, ho1⟩
    refine RL.alloc Try.zeroValue34 rfl rfl rfl rfl rfl ?_
    intro b3
    refine RL.storeW Try.sizeOf34 rfl rfl rfl rfl rfl rfl rfl (ones_fr _ rfl) (Upd.here) (hfl2 _) rfl ?_
    refine RL.nil ?_
    refine NQ.seq ?_
    refine CW.only (.cons (k := 0) rfl (.cons (k := 3) rfl (.cons (k := 4) rfl (.cons (k := 5) rfl (.cons (k := 6) rfl (.cons (k := 7) rfl .nil)))))) ?_
    refine CW.seq ?_
    refine CW.seq ?_
    refine CW.freezeP (A := [_, _]) (B := [_, _, _, _]) (.take (.take (.leave (.leave (.leave (.leave .nil)))))) rfl ?_
    generalize hF : x.x.f.few 40 = F at hfk hfb hfl2 ⊢
    refine CW.genI (fun J3 hJ3 => ?_)
    have hJJ3 : ∀ y ∈ J2, y ∈ J3 := fun y hy => hJ3 y (by simp [hy])
    have mB : own ob1 cap1 5 1 F.b.length (bytes F.b) ∈ J3 := hJ3 _ (by simp)
    have mC : cel b3 (F.cells (slO ob1 F.b.length cap1)) 34 ∈ J3 := hJ3 _ (by simp)
    clear hJ3
    have mA3 := hJJ3 _ mA
    have mS3 := hJJ3 _ mS2
    have rP3 : RdsN J3 ⟨b2, 0 + 1, none⟩ 2 [.int .u32 x.p.1, .int .u8 x.p.2] := RdsN.told mA3 vP rfl
    have rI3 : RdI J3 ⟨b2, 0 + 1 + 0, none⟩ (.int .u32 x.p.1) := ⟨fun _ => Rd.getI mA3 rfl⟩
    have rD3 : RdI J3 ⟨b2, 0 + 0, none⟩ (.int .i64 x.d) := ⟨fun _ => Rd.getI mA3 rfl⟩
    have rF3 : RdsN J3 ⟨b2, 0 + 3, none⟩ 21 (x.x.f.cells x.x.sl) := RdsN.told mA3 (fun j u hj => by rw [show 0 + 3 + j = j + 1 + 1 + 1 by omega]; exact hj) hfl
    have rC3 : RdsN J3 ⟨b3, 0, none⟩ 21 (F.cells (slO ob1 F.b.length cap1)) := ⟨fun _ => Rds.allI mC, hfl2 _⟩
    have hj3 : ∀ y ∈ J0, y ∈ J3 := fun y hy => hJJ3 _ (hJJ _ (hj y hy))
    have hbc3 : ∀ z ∈ c, bodyO z.2 ∈ J3 := fun z hz => hJJ3 _ (hJJ _ (hbc z hz))
    have hbr3 : ∀ z ∈ R, bodyO z.2 ∈ J3 := fun z hz => hJJ3 _ (hJJ _ (hbr z hz))
    have hlc : c.length ≤ 16 := by rw [hA.len]; exact hA.l
    clear rP rI rD rF w9 mA mS2
    refine CW.region (ef := []) (bk := []) ?_
    first | refine RL.fieldAddr fa_36_0 rfl rfl rfl rfl ?_ | refine RL.fieldAddrG fa_36_0 rfl rfl rfl rfl ?_
    refine RL.loadq Try.isAgg3 rfl rfl rfl rfl ?_
    refine RL.callvq (among_any x.d 7 (by decide) (by decide)) Try.call10 rfl rfl rfl rfl ?_
    refine RL.nil ?_
    refine NQ.seq ?_
    refine CW.cutG (γ := PG) (fun g => g.ok J3) (fun g => [(0, .slice (some ad) L.length n), (3, .pointer (some ⟨b, 0, none⟩)), (4, .pointer (some ⟨b1, 0, none⟩)), (5, .int .i64 (i : Int)), (6, .pointer (some ⟨b2, 0, none⟩))]) (fun g => g.J) (fun g => PGI b r b1 g) ?_ ?_
    ·
      refine CW.block ?_
      refine CW.seq ?_
      refine CW.region (ef := []) (bk := []) ?_
      refine RL.bin rfl rfl rfl rfl rfl rfl ?_
      refine RL.assign rfl rfl rfl rfl ?_
      refine RL.nil ?_
      refine NQ.seq ?_
      refine CW.cond rfl (fun h5 => ?_) (fun h5 => ?_)
      ·
        refine CW.seq ?_
        refine CW.cutG (γ := PG) (fun g => g.ok J3) (fun g => [(0, .slice (some ad) L.length n), (3, .pointer (some ⟨b, 0, none⟩)), (4, .pointer (some ⟨b1, 0, none⟩)), (5, .int .i64 (i : Int)), (6, .pointer (some ⟨b2, 0, none⟩)), (64, .bool g.bb)]) (fun g => g.J) (fun g => PGI b r b1 g) ?_ ?_
        ·
          refine CW.regionD (Sq.of [0, 1, 2, 3, 5, 6, 7, 8, 4, 9, 10, 11]) [4, 9] [4, 9] [0, 1, 2, 3, 5, 6, 7, 8, 11] mixed (by kernel_rfl) ?_
          refine RL.move rfl rfl rfl rfl ?_
          first | refine RL.fieldAddr fa_36_1 rfl rfl rfl rfl ?_ | refine RL.fieldAddrG fa_36_1 rfl rfl rfl rfl ?_
          first | refine RL.fieldAddr fa_28_0 rfl rfl rfl rfl ?_ | refine RL.fieldAddrG fa_28_0 rfl rfl rfl rfl ?_
          refine RL.loadTq Try.isAgg26 rfl rfl rfl rfl ?_
          refine RL.move rfl rfl rfl rfl ?_
          first | refine RL.fieldAddr fa_36_1 rfl rfl rfl rfl ?_ | refine RL.fieldAddrG fa_36_1 rfl rfl rfl rfl ?_
          first | refine RL.fieldAddr fa_28_0 rfl rfl rfl rfl ?_ | refine RL.fieldAddrG fa_28_0 rfl rfl rfl rfl ?_
          refine RL.loadTq Try.isAgg26 rfl rfl rfl rfl ?_
          refine RL.callq (qtake_any b r c x.p.1 hA.co (by omega)) Try.call11 rfl rfl rfl rfl rfl (.inr rfl) ?_
          rintro _ _ _ ⟨oa, ca, T, c', hT, rfl, rfl, rfl⟩
          refine RL.callq (rtake_any b1 R ob cp x.p.1 hA.ro (by have := hA.l; omega)) Try.call19 rfl rfl rfl rfl rfl (.inr rfl) ?_
          rintro _ _ _ ⟨oc, cc, od, cd, rfl, rfl, rfl⟩
          refine RL.callv (items_ok oa oc ca cc T (rOut x.p.1 R) (own oa ca 41 23 T.length (T.flatMap itc) :: itmI oc cc (rOut x.p.1 R).length (rOut x.p.1 R) :: J3) (hA.take hT).2 (List.Mem.head _) (List.Mem.tail _ (List.Mem.head _)) (fun z hz => by simp [hbc3 z (hT.p.mem_iff.1 (List.mem_append_left _ hz))]) (fun z hz => by simp [hbr3 z (List.mem_filter.1 hz).1]) ((hT.ok hA.co).1) (fun z hz => hA.ro z (List.mem_filter.1 hz).1) (by have := rOut_le x.p.1 R; have := hA.l; omega)) Try.call18 rfl rfl rfl rfl (.inH (by repeat (first | exact List.Mem.head _ | apply List.Mem.tail)) (.inH (by repeat (first | exact List.Mem.head _ | apply List.Mem.tail)) (Lend.many (fun z hz => by simpa using hz)))) ?_
          refine RL.not rfl rfl rfl rfl ?_
          refine RL.nil ?_
          exact NQ.midG (⟨c', rLeft x.p.1 R, od, cd, J3, false⟩ : PG) ⟨(hA.take hT).1, fun _ h => h, fun z hz => hbc3 z (hT.p.mem_iff.1 (List.mem_append_right _ hz)), fun z hz => hbr3 z (List.mem_filter.1 hz).1, rfl⟩ (.cons rfl (.cons rfl (.cons rfl (.cons rfl (.cons rfl (.cons rfl .nil)))))) (fun w h => h.rea (fun z hz => by simpa using hz) (by repeat (first | exact Rea.nil | (apply Rea.cons; (solve | (repeat (first | exact Del.here | apply Del.there)))))))
        rintro ⟨c, R, ob, cp, J, bb⟩ ⟨hA, hj, hbc, hbr, hbb⟩
        dsimp only at hA hj hbc hbr hbb ⊢
        subst hbb
        refine CW.condF rfl (rfl) ?_
        refine CW.skip ?_
        refine NQ.block ?_
        exact NQ.midG (⟨c, R, ob, cp, J, false⟩ : PG) ⟨hA, hj, hbc, hbr, rfl⟩ (.cons rfl (.cons rfl (.cons rfl (.cons rfl (.cons rfl .nil))))) (fun w h => h)
      ·
        refine CW.seq ?_
        refine CW.region (ef := []) (bk := []) ?_
        refine RL.bin rfl rfl rfl rfl rfl rfl ?_
        refine RL.assign rfl rfl rfl rfl ?_
        refine RL.nil ?_
        refine NQ.seq ?_
        refine CW.only (.cons (k := 0) rfl (.cons (k := 3) rfl (.cons (k := 4) rfl (.cons (k := 5) rfl (.cons (k := 6) rfl (.cons (k := 7) rfl (.cons (k := 65) rfl .nil))))))) ?_
        refine CW.cond rfl (fun h6 => ?_) (fun h6 => ?_)
        ·
          refine CW.seq ?_
          refine CW.cutG (γ := PG) (fun g => g.ok J3) (fun g => [(0, .slice (some ad) L.length n), (3, .pointer (some ⟨b, 0, none⟩)), (4, .pointer (some ⟨b1, 0, none⟩)), (5, .int .i64 (i : Int)), (6, .pointer (some ⟨b2, 0, none⟩)), (77, .bool g.bb)]) (fun g => g.J) (fun g => PGI b r b1 g) ?_ ?_
          ·
            refine CW.regionD (Sq.of [0, 1, 2, 3, 5, 6, 7, 8, 4, 9, 10]) [4, 9] [4, 9] [0, 1, 2, 3, 5, 6, 7, 8, 10] mixed (by kernel_rfl) ?_
            refine RL.move rfl rfl rfl rfl ?_
            first | refine RL.fieldAddr fa_36_1 rfl rfl rfl rfl ?_ | refine RL.fieldAddrG fa_36_1 rfl rfl rfl rfl ?_
            first | refine RL.fieldAddr fa_28_0 rfl rfl rfl rfl ?_ | refine RL.fieldAddrG fa_28_0 rfl rfl rfl rfl ?_
            refine RL.loadTq Try.isAgg26 rfl rfl rfl rfl ?_
            refine RL.move rfl rfl rfl rfl ?_
            first | refine RL.fieldAddr fa_36_1 rfl rfl rfl rfl ?_ | refine RL.fieldAddrG fa_36_1 rfl rfl rfl rfl ?_
            first | refine RL.fieldAddr fa_28_0 rfl rfl rfl rfl ?_ | refine RL.fieldAddrG fa_28_0 rfl rfl rfl rfl ?_
            refine RL.loadTq Try.isAgg26 rfl rfl rfl rfl ?_
            refine RL.callq (qdrop_any b r c x.p.1 hA.co (by omega)) Try.call14 rfl rfl rfl rfl rfl (.inr rfl) ?_
            rintro _ _ _ ⟨m, c', hD, rfl, rfl, rfl⟩
            obtain ⟨hA', rfl⟩ := hA.drop hD
            refine RL.callq (rdrop_any b1 R ob cp x.p.1 hA.ro (by have := hA.l; omega)) Try.call20 rfl rfl rfl rfl rfl (.inr rfl) ?_
            rintro _ _ _ ⟨od, cd, rfl, rfl, rfl⟩
            refine RL.bin rfl rfl rfl rfl rfl rfl ?_
            refine RL.nil ?_
            exact NQ.midG (⟨c', rDropL x.p.1 R, od, cd, J3, !(((rDropN x.p.1 R : Nat) : Int) == ((rDropN x.p.1 R : Nat) : Int))⟩ : PG) ⟨hA', fun _ h => h, hD.ok hbc3, rdrop_mem hbr3, by simp⟩ (.cons rfl (.cons rfl (.cons rfl (.cons rfl (.cons rfl (.cons rfl .nil)))))) (fun w h => h.rea (fun z hz => by simpa using hz) (by repeat (first | exact Rea.nil | (apply Rea.cons; (solve | (repeat (first | exact Del.here | apply Del.there)))))))
          rintro ⟨c, R, ob, cp, J, bb⟩ ⟨hA, hj, hbc, hbr, hbb⟩
          dsimp only at hA hj hbc hbr hbb ⊢
          subst hbb
          refine CW.condF rfl (rfl) ?_
          refine CW.skip ?_
          refine NQ.block ?_
          exact NQ.midG (⟨c, R, ob, cp, J, false⟩ : PG) ⟨hA, hj, hbc, hbr, rfl⟩ (.cons rfl (.cons rfl (.cons rfl (.cons rfl (.cons rfl .nil))))) (fun w h => h)
        ·
          refine CW.seq ?_
          refine CW.cutG (γ := PG) (fun g => g.ok J3) (fun g => [(0, .slice (some ad) L.length n), (3, .pointer (some ⟨b, 0, none⟩)), (4, .pointer (some ⟨b1, 0, none⟩)), (5, .int .i64 (i : Int)), (6, .pointer (some ⟨b2, 0, none⟩)), (50, .bool g.bb)]) (fun g => g.J) (fun g => PGI b r b1 g) ?_ ?_
          ·
            refine CW.regionD (Sq.of [0, 1, 2, 3, 4, 7, 8, 9, 11, 5, 6, 10, 12, 13]) [5, 6, 12] [6, 12] [0, 1, 2, 3, 4, 7, 8, 9, 10, 11, 13] mixed (by kernel_rfl) ?_
            refine RL.move rfl rfl rfl rfl ?_
            first | refine RL.fieldAddr fa_36_1 rfl rfl rfl rfl ?_ | refine RL.fieldAddrG fa_36_1 rfl rfl rfl rfl ?_
            first | refine RL.loadMT Try.isAgg28 Try.sizeOf28 rfl rfl rfl rfl (by assumption) ?_ | refine RL.loadAT Try.isAgg28 Try.sizeOf28 rfl rfl rfl rfl (by first | assumption | (apply RdsI.rds; assumption)) (by first | rfl | assumption | (simp only [List.length_map]; assumption) | (simp only [List.length_map, List.length_replicate, hal, hfl2]; done) | (simp; done)) ?_
            first | refine RL.fieldAddr fa_36_2 rfl rfl rfl rfl ?_ | refine RL.fieldAddrG fa_36_2 rfl rfl rfl rfl ?_
            first | refine RL.loadMT Try.isAgg34 Try.sizeOf34 rfl rfl rfl rfl (by assumption) ?_ | refine RL.loadAT Try.isAgg34 Try.sizeOf34 rfl rfl rfl rfl (by first | assumption | (apply RdsI.rds; assumption)) (by first | rfl | assumption | (simp only [List.length_map]; assumption) | (simp only [List.length_map, List.length_replicate, hal, hfl2]; done) | (simp; done)) ?_
            refine RL.move rfl rfl rfl rfl ?_
            first | refine RL.fieldAddr fa_36_1 rfl rfl rfl rfl ?_ | refine RL.fieldAddrG fa_36_1 rfl rfl rfl rfl ?_
            first | refine RL.loadMT Try.isAgg28 Try.sizeOf28 rfl rfl rfl rfl (by assumption) ?_ | refine RL.loadAT Try.isAgg28 Try.sizeOf28 rfl rfl rfl rfl (by first | assumption | (apply RdsI.rds; assumption)) (by first | rfl | assumption | (simp only [List.length_map]; assumption) | (simp only [List.length_map, List.length_replicate, hal, hfl2]; done) | (simp; done)) ?_
            first | refine RL.loadMT Try.isAgg34 Try.sizeOf34 rfl rfl rfl rfl (by assumption) ?_ | refine RL.loadAT Try.isAgg34 Try.sizeOf34 rfl rfl rfl rfl (by first | assumption | (apply RdsI.rds; assumption)) (by first | rfl | assumption | (simp only [List.length_map]; assumption) | (simp only [List.length_map, List.length_replicate, hal, hfl2]; done) | (simp; done)) ?_
            refine RL.call ((hF ▸ few20_o x.x hxo.x)) Try.call16 rfl rfl rfl rfl rfl (by repeat (first | exact Pick.nil | apply Pick.take | apply Pick.leave)) (Lend.inI (by simp [mS3]) .nil) (.inl rfl) ?_
            rintro _ _ _ ⟨ob2, cap2, rfl, rfl, rfl, ho2⟩
            refine RL.call (qput_any b r c x.p F (ob2.map fun b => ⟨b, 0, none⟩) cap2 F.b.length hfk rfl (by omega) hA.co) Try.call15 rfl rfl rfl rfl rfl (by repeat (first | exact Pick.nil | apply Pick.take | apply Pick.leave)) (Lend.own (by repeat (first | exact List.Mem.head _ | apply List.Mem.tail)) .nil) (.inr rfl) ?_
            rintro _ I1 _ ⟨e1, c', rfl, hO1, rfl⟩
            refine RL.callTq (plain_any x.p) Try.call13 rfl rfl rfl rfl ?_
            refine RL.call (rput_any b1 R ob cp x.p F (ob1.map fun b => ⟨b, 0, none⟩) cap1 hfk (by omega) hA.ro hA.l) Try.call21 rfl rfl rfl rfl rfl (by repeat (first | exact Pick.nil | apply Pick.take | apply Pick.leave)) (Lend.ownI (cap := cap1) (e := 5) (by simp [mB]) .nil) (.inr rfl) ?_
            rintro _ I2 _ ⟨e2, R', od, cd, rfl, hO2, rfl⟩
            refine RL.bin rfl rfl rfl rfl rfl rfl ?_
            refine RL.nil ?_
            exact NQ.midG (⟨c', R', od, cd, I1 ++ (I2 ++ J3), !(e1 == e2)⟩ : PG) (put_ok hA hO1 hO2 hfk (by omega) hbc3 hbr3) (.cons rfl (.cons rfl (.cons rfl (.cons rfl (.cons rfl (.cons rfl .nil)))))) (fun w h => h.rea (fun z hz => by simp only [List.mem_append] at hz ⊢; rcases hz with h | h | h <;> simp [h]) (by repeat (first | exact Rea.nil | (apply Rea.cons; (solve | (repeat (first | exact Del.here | apply Del.there)))))))
          rintro ⟨c, R, ob, cp, J, bb⟩ ⟨hA, hj, hbc, hbr, hbb⟩
          dsimp only at hA hj hbc hbr hbb ⊢
          subst hbb
          refine CW.condF rfl (rfl) ?_
          refine CW.skip ?_
          refine NQ.block ?_
          exact NQ.midG (⟨c, R, ob, cp, J, false⟩ : PG) ⟨hA, hj, hbc, hbr, rfl⟩ (.cons rfl (.cons rfl (.cons rfl (.cons rfl (.cons rfl .nil))))) (fun w h => h)
    clear hbc3 hbr3 hA hbc hbr hlc
    rintro ⟨c, R, ob, cp, J4, bb⟩ ⟨hA, hj4, hbc, hbr, hbb⟩
    dsimp only at hA hj4 hbc hbr hbb ⊢
    clear hbb
    have hlc : c.length ≤ 16 := by rw [hA.len]; exact hA.l
    have rP4 : RdsN J4 ⟨b2, 0 + 1, none⟩ 2 [.int .u32 x.p.1, .int .u8 x.p.2] := RdsN.told (hj4 _ mA3) vP rfl
    have hget := hA.get x.p
    have hxo0 : ((lkQ x.p c).getD fro0).Ok := by
      cases h : lkQ x.p c with
      | none => exact fro0_ok
      | some x => exact hA.co _ (lkQ_some h)
    have hzo0 : ((lkQ x.p R).getD fro0).Ok := by
      cases h : lkQ x.p R with
      | none => exact fro0_ok
      | some x => exact hA.ro _ (lkQ_some h)
    have hff : ((lkQ x.p c).getD fro0).f = ((lkQ x.p R).getD fro0).f := by
      cases h1 : lkQ x.p c <;> cases h2 : lkQ x.p R <;> rw [h1, h2] at hget <;> simp at hget ⊢ <;> exact hget
    have his : (lkQ x.p c).isSome = (lkQ x.p R).isSome := by
      cases h1 : lkQ x.p c <;> cases h2 : lkQ x.p R <;> rw [h1, h2] at hget <;> simp at hget ⊢
    have hzl := fro_len hzo0
    refine CW.seq ?_
    refine CW.region (ef := [3, 7, 8]) (bk := [3, 8]) ?_
    refine RL.move rfl rfl rfl rfl ?_
    first | refine RL.fieldAddr fa_36_1 rfl rfl rfl rfl ?_ | refine RL.fieldAddrG fa_36_1 rfl rfl rfl rfl ?_
    first | refine RL.loadM Try.isAgg28 Try.sizeOf28 rfl rfl rfl rfl (by assumption) ?_ | refine RL.loadA Try.isAgg28 Try.sizeOf28 rfl rfl rfl rfl (by first | assumption | (apply RdsI.rds; assumption)) (by first | rfl | assumption | (simp only [List.length_map]; assumption) | (simp only [List.length_map, List.length_replicate, hal, hfl2]; done) | (simp; done)) ?_ | refine RL.loadW Try.isAgg28 Try.sizeOf28 rfl rfl rfl rfl (by (solve | (repeat (first | exact List.Mem.head _ | apply List.Mem.tail)))) (by first | rfl | assumption | (simp only [List.length_map]; assumption) | (simp only [List.length_map, List.length_replicate, hal, hfl2]; done) | (simp; done)) ?_
    refine RL.call (qget_any b r c x.p hA.co) Try.call22 rfl rfl rfl rfl rfl (by repeat (first | exact Pick.nil | apply Pick.take | apply Pick.leave)) (.inH (by repeat (first | exact List.Mem.head _ | apply List.Mem.tail)) (.inH (by repeat (first | exact List.Mem.head _ | apply List.Mem.tail)) (lend_body hbc))) (.inr rfl) ?_
    rintro _ _ _ ⟨obg, cpg, rfl, rfl, rfl⟩
    refine RL.move rfl rfl rfl rfl ?_
    refine RL.extract rfl rfl rfl rfl rfl ?_
    refine RL.extract rfl rfl rfl rfl rfl ?_
    refine RL.alloc Try.zeroValue34 rfl rfl rfl rfl rfl ?_
    intro b4
    refine RL.storeW Try.sizeOf34 rfl rfl rfl rfl rfl rfl rfl (ones_fr _ rfl) (Upd.here) (fr_len hxo0.f.tag _) rfl ?_
    refine RL.assign rfl rfl rfl rfl ?_
    refine RL.nil ?_
    refine NQ.seq ?_
    refine CW.only (.cons (k := 0) rfl (.cons (k := 3) rfl (.cons (k := 4) rfl (.cons (k := 5) rfl (.cons (k := 6) rfl (.cons (k := 8) rfl (.cons (k := 9) rfl .nil))))))) ?_
    refine CW.seq ?_
    refine CW.region (ef := [8, 9]) (bk := [9]) ?_
    refine RL.move rfl rfl rfl rfl ?_
    first | refine RL.fieldAddr fa_36_1 rfl rfl rfl rfl ?_ | refine RL.fieldAddrG fa_36_1 rfl rfl rfl rfl ?_
    first | refine RL.loadM Try.isAgg28 Try.sizeOf28 rfl rfl rfl rfl (by assumption) ?_ | refine RL.loadA Try.isAgg28 Try.sizeOf28 rfl rfl rfl rfl (by first | assumption | (apply RdsI.rds; assumption)) (by first | rfl | assumption | (simp only [List.length_map]; assumption) | (simp only [List.length_map, List.length_replicate, hal, hfl2]; done) | (simp; done)) ?_ | refine RL.loadW Try.isAgg28 Try.sizeOf28 rfl rfl rfl rfl (by (solve | (repeat (first | exact List.Mem.head _ | apply List.Mem.tail)))) (by first | rfl | assumption | (simp only [List.length_map]; assumption) | (simp only [List.length_map, List.length_replicate, hal, hfl2]; done) | (simp; done)) ?_
    refine RL.callvq (plain_any x.p) Try.call13 rfl rfl rfl rfl ?_
    refine RL.callvq (rget_any b1 R ob cp x.p hA.ro (by have := hA.l; omega)) Try.call23 rfl rfl rfl rfl ?_
    refine RL.move rfl rfl rfl rfl ?_
    refine RL.extract rfl rfl rfl rfl rfl ?_
    refine RL.extract rfl rfl rfl rfl rfl ?_
    refine RL.alloc Try.zeroValue34 rfl rfl rfl rfl rfl ?_
    intro b5
    refine RL.storeW Try.sizeOf34 rfl rfl rfl rfl rfl rfl rfl (ones_fr _ rfl) (Upd.here) hzl rfl ?_
    refine RL.assign rfl rfl rfl rfl ?_
    refine RL.nil ?_
    refine NQ.seq ?_
    refine CW.only (.cons (k := 0) rfl (.cons (k := 3) rfl (.cons (k := 4) rfl (.cons (k := 5) rfl (.cons (k := 8) rfl (.cons (k := 9) rfl (.cons (k := 10) rfl (.cons (k := 11) rfl .nil)))))))) ?_
    refine CW.seq ?_
    refine CW.region (ef := [1]) (bk := [1]) ?_
    refine RL.move rfl rfl rfl rfl ?_
    refine RL.callq (places_any b r c (by omega)) Try.call24 rfl rfl rfl rfl rfl (.inr rfl) ?_
    rintro _ _ _ ⟨po, pc, rfl, rfl, rfl⟩
    rw [hA.pls, his]
    have hcl := hA.len
    have hx21 : ∀ sl, (((lkQ x.p c).getD fro0).f.cells sl).length = 21 := fun sl => fr_len hxo0.f.tag sl
    generalize hX : ((lkQ x.p c).getD fro0).f = X at hx21 hff ⊢
    generalize hZ : (lkQ x.p R).getD fro0 = Z at hzl hzo0 hff ⊢
    have hlz : ∀ F : List It, ∀ K, Lend J4 F K → Lend J4 F (sls (Z.ob.map fun b => ⟨b, 0, none⟩) 1 Z.f.b.length (bytes Z.f.b) :: K) := fun F K hK => hZ ▸ lend_sls hbr hK
    refine RL.assign rfl rfl rfl rfl ?_
    refine RL.nil ?_
    refine NQ.seq ?_
    refine CW.seq ?_
    refine CW.seq ?_
    refine CW.region (ef := []) (bk := []) ?_
    refine RL.move rfl rfl rfl rfl ?_
    refine RL.move rfl rfl rfl rfl ?_
    refine RL.cmp rfl rfl rfl rfl rfl (neq_bool Try.runUnderlying4 _ _) ?_
    refine RL.move rfl rfl rfl rfl ?_
    apply RL.orB (d := 98) (dp := 103) (l' := (Sq.of [9, 10, 11, 12, 13, 14, 15, 16, 17, 18, 19, 20, 21, 22, 23, 24, 25])) rfl (.cons (k := 0) rfl (.cons (k := 3) rfl (.cons (k := 4) rfl (.cons (k := 5) rfl (.cons (k := 12) rfl .nil)))))
    ·
      intro hb4 K4
      first | refine RL.loadM Try.isAgg34 Try.sizeOf34 rfl rfl rfl rfl (by assumption) ?_ | refine RL.loadA Try.isAgg34 Try.sizeOf34 rfl rfl rfl rfl (by first | assumption | (apply RdsI.rds; assumption)) (by first | rfl | assumption | (simp only [List.length_map]; assumption) | (simp only [List.length_map, List.length_replicate, hx21, hzl]; done) | (simp; done)) ?_ | refine RL.loadW Try.isAgg34 Try.sizeOf34 rfl rfl rfl rfl (by (solve | (repeat (first | exact List.Mem.head _ | apply List.Mem.tail)))) (by first | rfl | assumption | (simp only [List.length_map]; assumption) | (simp only [List.length_map, List.length_replicate, hx21, hzl]; done) | (simp; done)) ?_
      first | refine RL.loadM Try.isAgg34 Try.sizeOf34 rfl rfl rfl rfl (by assumption) ?_ | refine RL.loadA Try.isAgg34 Try.sizeOf34 rfl rfl rfl rfl (by first | assumption | (apply RdsI.rds; assumption)) (by first | rfl | assumption | (simp only [List.length_map]; assumption) | (simp only [List.length_map, List.length_replicate, hx21, hzl]; done) | (simp; done)) ?_ | refine RL.loadW Try.isAgg34 Try.sizeOf34 rfl rfl rfl rfl (by (solve | (repeat (first | exact List.Mem.head _ | apply List.Mem.tail)))) (by first | rfl | assumption | (simp only [List.length_map]; assumption) | (simp only [List.length_map, List.length_replicate, hx21, hzl]; done) | (simp; done)) ?_
      refine RL.callv (frsame_o (x := ⟨X, obg, cpg⟩) (z := Z) hff hzo0.f) Try.call25 rfl rfl rfl rfl (Lend.own (by repeat (first | exact List.Mem.head _ | apply List.Mem.tail)) (hlz _ _ .nil)) ?_
      refine RL.not rfl rfl rfl rfl ?_
      refine RL.pickF rfl rfl rfl rfl rfl ?_
      exact K4 _ (.cons rfl (.cons (k := 0) rfl (.cons (k := 3) rfl (.cons (k := 4) rfl (.cons (k := 5) rfl (.cons (k := 12) rfl .nil))))))
    ·
      intro hb4 K4
      refine RL.skip rfl rfl rfl rfl ?_
      refine RL.skip rfl rfl rfl rfl ?_
      refine RL.skip rfl rfl rfl rfl ?_
      refine RL.skip rfl rfl rfl rfl ?_
      refine RL.pickT rfl rfl rfl rfl rfl ?_
      exact K4 _ (.cons rfl (.cons (k := 0) rfl (.cons (k := 3) rfl (.cons (k := 4) rfl (.cons (k := 5) rfl (.cons (k := 12) rfl .nil))))))
    refine RL.move rfl rfl rfl rfl ?_
    apply RL.orB (d := 104) (dp := 113) (l' := (Sq.of [19, 20, 21, 22, 23, 24, 25])) rfl (.cons (k := 0) rfl (.cons (k := 3) rfl (.cons (k := 4) rfl (.cons (k := 5) rfl (.cons (k := 12) rfl .nil)))))
    ·
      intro hb10 K10
      refine RL.move rfl rfl rfl rfl ?_
      refine RL.lenS Try.runUnderlying61 rfl rfl rfl rfl ?_
      refine RL.move rfl rfl rfl rfl ?_
      refine RL.nilCheck rfl rfl rfl rfl ?_
      first | refine RL.fieldAddr fa_54_0 rfl rfl rfl rfl ?_ | refine RL.fieldAddrG fa_54_0 rfl rfl rfl rfl ?_
      refine RL.loadq Try.isAgg52 rfl rfl rfl rfl ?_
      refine RL.lenS Try.runUnderlying52 rfl rfl rfl rfl ?_
      refine RL.bin rfl rfl rfl rfl rfl rfl ?_
      refine RL.pickF rfl rfl rfl rfl rfl ?_
      exact K10 _ (.cons rfl (.cons (k := 0) rfl (.cons (k := 3) rfl (.cons (k := 4) rfl (.cons (k := 5) rfl (.cons (k := 12) rfl .nil))))))
    ·
      intro hb10 K10
      refine RL.skip rfl rfl rfl rfl ?_
      refine RL.skip rfl rfl rfl rfl ?_
      refine RL.skip rfl rfl rfl rfl ?_
      refine RL.skip rfl rfl rfl rfl ?_
      refine RL.skip rfl rfl rfl rfl ?_
      refine RL.skip rfl rfl rfl rfl ?_
      refine RL.skip rfl rfl rfl rfl ?_
      refine RL.skip rfl rfl rfl rfl ?_
      refine RL.pickT rfl rfl rfl rfl rfl ?_
      exact K10 _ (.cons rfl (.cons (k := 0) rfl (.cons (k := 3) rfl (.cons (k := 4) rfl (.cons (k := 5) rfl (.cons (k := 12) rfl .nil))))))
    refine RL.move rfl rfl rfl rfl ?_
    apply RL.orB (d := 114) (dp := 120) (l' := (Sq.of [])) rfl (.cons (k := 0) rfl (.cons (k := 3) rfl (.cons (k := 4) rfl (.cons (k := 5) rfl (.cons (k := 12) rfl .nil)))))
    ·
      intro hb20 K20
      refine RL.move rfl rfl rfl rfl ?_
      refine RL.callvq (qlen_any b r c) Try.call17 rfl rfl rfl rfl ?_
      refine RL.move rfl rfl rfl rfl ?_
      refine RL.lenS Try.runUnderlying61 rfl rfl rfl rfl ?_
      refine RL.bin rfl rfl rfl rfl rfl rfl ?_
      refine RL.pickF rfl rfl rfl rfl rfl ?_
      exact K20 _ (.cons rfl (.cons (k := 0) rfl (.cons (k := 3) rfl (.cons (k := 4) rfl (.cons (k := 5) rfl (.cons (k := 12) rfl .nil))))))
    ·
      intro hb20 K20
      refine RL.skip rfl rfl rfl rfl ?_
      refine RL.skip rfl rfl rfl rfl ?_
      refine RL.skip rfl rfl rfl rfl ?_
      refine RL.skip rfl rfl rfl rfl ?_
      refine RL.skip rfl rfl rfl rfl ?_
      refine RL.pickT rfl rfl rfl rfl rfl ?_
      exact K20 _ (.cons rfl (.cons (k := 0) rfl (.cons (k := 3) rfl (.cons (k := 4) rfl (.cons (k := 5) rfl (.cons (k := 12) rfl .nil))))))
    refine RL.nil ?_
    refine NQ.seq ?_
    refine CW.condF rfl (by simp [plsQ_len, hcl, keysQ]) ?_
    refine CW.skip ?_
    refine NQ.seq ?_
    refine CW.seq ?_
    refine CW.region (ef := []) (bk := []) ?_
    refine RL.assign rfl rfl rfl rfl ?_
    refine RL.nil ?_
    refine NQ.seq ?_
    refine CW.block ?_
    refine CW.fact (p := (po = none → c.length = 0) ∧ (ob = none → R.length = 0)) (fun w hC => ⟨fun e => by subst e; exact own_none (hC.s.h (own none pc 28 2 c.length ((keysQ R).flatMap plcq)) (by repeat (first | exact List.Mem.head _ | apply List.Mem.tail))), fun e => by subst e; exact own_none (hC.s.h (itmI none cp R.length R) (by repeat (first | exact List.Mem.head _ | apply List.Mem.tail)))⟩) (fun hno => ?_)
    refine CW.loop (γ := Nat) (fun k => k ≤ c.length) (fun k => [(0, .slice (some ad) L.length n), (3, .pointer (some ⟨b, 0, none⟩)), (4, .pointer (some ⟨b1, 0, none⟩)), (5, .int .i64 (i : Int)), (12, slO po c.length pc), (13, .int .i64 (k : Int))])
      (fun _ => J4) (fun _ => [own po pc 28 2 c.length ((keysQ R).flatMap plcq), rbufI b1 ob R.length cp, itmI ob cp R.length R, bufI b r, mapQ r c]) (fun k => c.length - k) 0 (by omega) (.cons rfl (.cons rfl (.cons rfl (.cons rfl (.cons rfl (.cons rfl .nil)))))) (fun w h => h.rea (fun _ h => by simpa using h) (by repeat (first | exact Rea.nil | (apply Rea.cons; (solve | (repeat (first | exact Del.here | apply Del.there))))))) ?_
    intro k hk
    refine CW.seq ?_
    refine CW.seq ?_
    refine CW.region (ef := []) (bk := []) ?_
    refine RL.move rfl rfl rfl rfl ?_
    refine RL.move rfl rfl rfl rfl ?_
    refine RL.lenS Try.runUnderlying61 rfl rfl rfl rfl ?_
    refine RL.bin rfl rfl rfl rfl rfl rfl ?_
    refine RL.nil ?_
    refine NQ.seq ?_
    refine CW.cond rfl (fun hlk => ?_) (fun hlk => ?_)
    ·
      have hlk : k < c.length := by simp at hlk; omega
      have hlk2 : k < R.length := by omega
      obtain ⟨qa, rfl⟩ : ∃ q, po = some q := by
        cases po with
        | none => exact absurd (hno.1 rfl) (by omega)
        | some q => exact ⟨q, rfl⟩
      obtain ⟨qb, rfl⟩ : ∃ q, ob = some q := by
        cases ob with
        | none => exact absurd (hno.2 rfl) (by omega)
        | some q => exact ⟨q, rfl⟩
      have hz := List.getElem?_eq_getElem hlk2
      generalize R[k]'hlk2 = z at hz
      have hkz : (keysQ R)[k]? = some z.1 := by rw [keysQ, List.getElem?_map, hz]; rfl
      refine CW.skip ?_
      refine NQ.seq ?_
      refine CW.seq ?_
      refine CW.block ?_
      refine CW.seq ?_
      refine CW.regionD (Sq.of [0, 1, 2, 3, 4, 5, 6, 7, 8, 9, 10, 11, 12, 13]) [] [] [0, 1, 2, 5, 6, 7, 9, 10, 11, 13] mixed (by kernel_rfl) ?_
      refine RL.move rfl rfl rfl rfl ?_
      refine RL.move rfl rfl rfl rfl ?_
      refine RL.idxAt (j := k) Try.runUnderlying61 Try.sizeOf28 rfl rfl rfl rfl rfl rfl ((by first | exact hlk | exact hlk2)) ?_
      refine RL.loadN (vs := [_, _]) Try.isAgg28 Try.sizeOf28 rfl rfl rfl rfl (own_rds (f := plcq) (List.Mem.head _) hkz (fun _ _ => rfl)) ?_
      refine RL.callvq (plain_any z.1) Try.call13 rfl rfl rfl rfl ?_
      refine RL.move rfl rfl rfl rfl ?_
      refine RL.nilCheck rfl rfl rfl rfl ?_
      refine RL.fieldAddr fa_54_0 rfl rfl rfl rfl ?_
      refine RL.loadq Try.isAgg52 rfl rfl rfl rfl ?_
      refine RL.move rfl rfl rfl rfl ?_
      refine RL.idxAt (j := k) Try.runUnderlying52 Try.sizeOf65 rfl rfl rfl rfl rfl rfl ((by first | exact hlk | exact hlk2)) ?_
      refine RL.fieldAddr fa_65_0 rfl rfl rfl rfl ?_
      refine RL.loadN (vs := [_, _]) Try.isAgg43 Try.sizeOf43 rfl rfl rfl rfl (Rds.itP (own_rds (List.Mem.tail _ (List.Mem.tail _ (List.Mem.head _))) hz (itc_fm_len hA.ro))) ?_
      refine RL.cmp rfl rfl rfl rfl rfl (ne_plq _ _ _ _ _ _) ?_
      refine RL.nil ?_
      refine NQ.seq ?_
      refine CW.only (.cons (k := 0) rfl (.cons (k := 3) rfl (.cons (k := 4) rfl (.cons (k := 5) rfl (.cons (k := 12) rfl (.cons (k := 13) rfl (.cons (k := 140) rfl .nil))))))) ?_
      refine CW.condF rfl (by simp) ?_
      refine CW.skip ?_
      refine NQ.block ?_
      refine NQ.seq ?_
      refine CW.region (ef := []) (bk := []) ?_
      refine RL.move rfl rfl rfl rfl ?_
      refine RL.binX rfl rfl rfl rfl rfl rfl (wrapV_i64 (by omega) (by omega)) ?_
      refine RL.assign rfl rfl rfl rfl ?_
      refine RL.nil ?_
      refine NQ.round (g := k) (k + 1) hlk (by omega) (.cons rfl (.cons rfl (.cons rfl (.cons rfl (.cons rfl (.cons rfl .nil)))))) (fun w h => h)
    ·
      refine CW.exit ?_
      refine XQ.seq ?_
      refine XQ.seq ?_
      refine XQ.hit ?_
      refine NQ.block ?_
      refine NQ.seq ?_
      refine CW.only (.cons (k := 0) rfl (.cons (k := 3) rfl (.cons (k := 4) rfl (.cons (k := 5) rfl .nil)))) ?_
      refine CW.region (ef := []) (bk := []) ?_
      refine RL.move rfl rfl rfl rfl ?_
      refine RL.binX rfl rfl rfl rfl rfl rfl (wrapV_i64 (by omega) (by omega)) ?_
      refine RL.assign rfl rfl rfl rfl ?_
      refine RL.nil ?_
      refine NQ.round (g := (i, (⟨[], [], none, 0, [], false⟩ : PG))) (i + 1, ⟨c, R, ob, cp, J4, false⟩) ⟨hlt, by show i + 1 ≤ 60; omega, hA, fun z hz => hj4 _ (hj3 z hz), hbc, hbr, rfl⟩ (by show L.length - (i + 1) < L.length - i; omega) (.cons rfl (.cons rfl (.cons rfl (.cons rfl .nil)))) (fun w h => h.rea (fun _ h => h) (by repeat (first | exact Rea.nil | (apply Rea.cons; (solve | (repeat (first | exact Del.here | apply Del.there)))))))
  ·
    refine CW.exit ?_
    refine XQ.seq ?_
    refine XQ.seq ?_
    refine XQ.hit ?_
    refine NQ.seq ?_
    refine CW.seq ?_
    refine CW.region (ef := []) (bk := []) ?_
    refine RL.callvq (works20) Try.call8 rfl rfl rfl rfl ?_
    refine RL.assign rfl rfl rfl rfl ?_
    refine RL.nil ?_
    refine NQ.seq ?_
    refine CW.only (.cons (k := 2) rfl .nil) ?_
    refine CW.ret ?_
    exact RQ.post (res1 rfl rfl) (Split.none _) ⟨rfl, rfl, rfl⟩
theorem pendPlays_call (W : World) (x : Sl Act20) (hx : rActs20.ok x) (tx : ∀ y ∈ rActs20.its x, y.A W) :
    Calls Try.prog 4 #[rActs20.val x] W (fun e w' => e = .returned (.bool true) ∧ RowKit.Below W.heap.size W w') := by
  have ht : ∀ y ∈ (sls x.p 24 x.l.length (x.l.flatMap Act20.cells) :: x.l.flatMap Act20.its), y.A W := tx
  exact (pplays x.p x.c x.l hx.2.2.2 hx.1).lawI ht
end Go.Proofs.Ytggmnhogmjglmaa
