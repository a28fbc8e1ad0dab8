import Derived.Test.YtbdnebedmdoehaaTN
import Derived.Test.YtbdnebedmdoehaaTRd
namespace Go.Proofs.Ytbdnebedmdoehaa
open Go.PK
/-! ### Readers -/
structure RepA where
  r : Rep
  p : Option Addr
  c : Nat
abbrev RepA.sl (x : RepA) : Value := .slice x.p x.r.L.length x.c
structure RepA.Ok (x : RepA) : Prop where
  h1 : x.r.fr.length = 32
  h2 : x.r.to.length = 32
  c : x.r.L.length ≤ x.c
  b : x.r.L.length ≤ maxLen
noncomputable def rDig : Rdr Try.prog 78 (List B8) := rU8.array 32 1 (by kernel_rfl) (by kernel_rfl) (by kernel_rfl) (List.map U8) (flat_one U8)
set_option maxRecDepth 100000
noncomputable def rRep : Rdr Try.prog 81 RepA :=
  Rdr.struct (fs := [Field.mk "From" 78 0 false "" "" 0, Field.mk "To" 78 32 false "" "" 32, Field.mk "Ahead" 3 64 false "" "" 64, Field.mk "L" 79 65 false "" "" 72].toArray) (tot := 66) (α := List B8 × List B8 × Int × Sl Ent × Unit)
    (by kernel_rfl) (by kernel_rfl)
    (.cons (k := 32) rDig rfl (by kernel_rfl) (by decide) (.cons (k := 32) rDig rfl (by kernel_rfl) (by decide) (.cons (k := 1) rInt rfl (by kernel_rfl) (by decide) (.cons (k := 1) rEnts rfl (by kernel_rfl) (by decide) .nil))))
    (fun x => x.r.cells x.sl) (fun x => [sls x.p 4 x.r.L.length (entsV x.r.L)]) RepA.Ok
    (fun ⟨fr, to, a, s, _⟩ h => by
      obtain ⟨⟨h1, h1'⟩, ⟨h2, h2'⟩, h3, ⟨h4, h4', -⟩, -⟩ := h
      have h4 : s.l.length ≤ s.c := h4
      have h4' : s.c ≤ maxLen := h4'
      refine ⟨⟨⟨fr, to, a, s.l⟩, s.p, s.c⟩, ?_, ⟨h1, h2, h4, Nat.le_trans h4 h4'⟩, ?_⟩
      · show _ = bytes fr ++ (bytes to ++ ([Value.int .i64 a] ++ ([Value.slice s.p s.l.length s.c] ++ [])))
        rfl
      · intro y hy
        rw [List.mem_singleton.1 hy]
        simp [Flds.cons, rEnts, Rdr.slice])
    (fun x h => rep_len h.h1 h.h2)
/-! ### Next, as the law calls it -/
def nxD (h : List B8) (x : Ent) : List B8 := if x.ok then nextD h x else zeros
def nxE (x : Ent) : Int := if x.ok then 0 else 2
theorem nx_len (h : List B8) (x : Ent) : (nxD h x).length = 32 := by
  rw [nxD]; split
  · exact nextD_length h x
  · rfl
theorem nextV_eq (h : List B8) (x : Ent) : nextV h x = .tuple #[.agg (bytes (nxD h x)).toArray, .int .i64 (nxE x)] := by
  cases hx : x.ok with
  | true => rw [next_yes hx, nxD, nxE, if_pos hx, if_pos hx]
  | false => rw [next_no hx, nxD, nxE, if_neg (by simp [hx]), if_neg (by simp [hx])]
theorem nx_any (h : List B8) (hl : h.length = 32) (x : Ent) : Spc Try.prog 29 #[.agg (bytes h).toArray, .agg x.cells.toArray] [] [] (Is (.tuple #[.agg (bytes (nxD h x)).toArray, .int .i64 (nxE x)])) := nextV_eq h x ▸ next_any h hl x
theorem rnx_any (h : List B8) (hl : h.length = 32) (x : Ent) : Spc Try.prog 28 #[.agg (bytes h).toArray, .agg x.cells.toArray] [] [] (Is (.tuple #[.agg (bytes (nxD h x)).toArray, .int .i64 (nxE x)])) := nextV_eq h x ▸ rnext_any h hl x
theorem few_self {p : Rep} (h : p.L.length ≤ 20) : p.few = p := by
  obtain ⟨a, b, c, L⟩ := p
  show (⟨a, b, c, L.take 20⟩ : Rep) = _
  rw [List.take_of_length_le h]
theorem few_le (p : Rep) : p.few.L.length ≤ 20 := by show (p.L.take 20).length ≤ 20; rw [List.length_take]; omega
theorem joinV_len {p q : Rep} (h1 : p.fr.length = 32) (h2 : q.to.length = 32) : (joinV p q).fr.length = 32 ∧ (joinV p q).to.length = 32 := by
  by_cases h : joinC p q
  · rw [(join_yes h).1]; exact ⟨h1, h2⟩
  · rw [(join_no h).1]; exact ⟨rfl, rfl⟩
theorem joinV_le {p q : Rep} {n : Nat} (h : p.L.length + q.L.length ≤ n) : (joinV p q).L.length ≤ n := by
  by_cases hc : joinC p q
  · rw [(join_yes hc).1]; show (p.L ++ q.L).length ≤ n; rw [List.length_append]; exact h
  · rw [(join_no hc).1]; exact Nat.zero_le _
theorem rep_fr' {fr to : List B8} {a : Int} {L : List Ent} {sl : Value} (h1 : fr.length = 32) : ∀ (j : Nat) (u : Value), (bytes fr)[j]? = some u → (Rep.cells ⟨fr, to, a, L⟩ sl)[0 + 0 + j]? = some u := rep_fr (p := ⟨fr, to, a, L⟩) h1
theorem rep_set_to' {fr to v : List B8} {a : Int} {L : List Ent} {sl : Value} (h1 : fr.length = 32) (h2 : to.length = 32) (hv : v.length = 32) : spl (Rep.cells ⟨fr, to, a, L⟩ sl) (0 + 32) (bytes v) = Rep.cells ⟨fr, v, a, L⟩ sl := rep_set_to (p := ⟨fr, to, a, L⟩) h1 h2 hv
theorem rep_len' {fr to : List B8} {a : Int} {L : List Ent} {sl : Value} (h1 : fr.length = 32) (h2 : to.length = 32) : (Rep.cells ⟨fr, to, a, L⟩ sl).length = 66 := rep_len (p := ⟨fr, to, a, L⟩) h1 h2
structure LG (P Q : Rep) (g : Rep × Rep) : Prop where
  p1 : g.1.fr.length = 32
  p2 : g.1.to.length = 32
  q1 : g.2.fr.length = 32
  q2 : g.2.to.length = 32
  pL : g.1.L = P.L
  qL : g.2.L = Q.L
theorem ttells (p q : RepA) (hp : p.Ok) (hq : q.Ok) (x : Ent) (rt : Bool) : Spc Try.prog 5 #[.agg (p.r.cells p.sl).toArray, .agg (q.r.cells q.sl).toArray, .agg x.cells.toArray, .bool rt] [sls p.p 4 p.r.L.length (entsV p.r.L), sls q.p 4 q.r.L.length (entsV q.r.L)] [] (Is (.bool true)) := by
  have lp := fun sl => rep_len (p := p.r) (sl := sl) hp.h1 hp.h2
  have lq := fun sl => rep_len (p := q.r) (sl := sl) hq.h1 hq.h2
  have lpf := fun sl => rep_len (p := p.r.few) (sl := sl) hp.h1 hp.h2
  have lqf := fun sl => rep_len (p := q.r.few) (sl := sl) hq.h1 hq.h2
  refine Spc.enter Try.func5 rfl rfl rfl (fun w0 hw0 => ?_)
  refine CW.seq (CW.region (ef := [0, 1, 2]) (bk := []) (RL.box rfl rfl rfl rfl rfl rfl ?_))
  intro b1
  refine RL.box rfl rfl rfl rfl rfl rfl ?_
  intro b2
  refine RL.box rfl rfl rfl rfl rfl rfl ?_
  intro b3
  refine RL.p rfl (RL.nil (NQ.seq (CW.seq (CW.regionD (Sq.of [0, 2, 1, 3, 4, 5]) [1, 3, 4, 5] [4, 5] [] mixed (by kernel_rfl) ?_))))
  refine RL.loadW Try.isAgg81 Try.sizeOf81 rfl rfl rfl rfl (by repeat (first | exact List.Mem.head _ | apply List.Mem.tail)) (lp _) ?_
  refine RL.loadW Try.isAgg81 Try.sizeOf81 rfl rfl rfl rfl (by repeat (first | exact List.Mem.head _ | apply List.Mem.tail)) (lq _) ?_
  refine RL.call (tfew_any p.r p.p p.c p.r.L.length hp.h1 hp.h2 rfl hp.c hp.b) Try.call27 rfl rfl rfl rfl rfl (by repeat (first | exact Pick.nil | apply Pick.take | apply Pick.leave)) (.inI (by repeat (first | exact List.Mem.head _ | apply List.Mem.tail)) .nil) (.inl rfl) ?_
  rintro _ _ _ ⟨op, cp, rfl, hcp, rfl, rfl⟩
  refine RL.call (tfew_any q.r q.p q.c q.r.L.length hq.h1 hq.h2 rfl hq.c hq.b) Try.call27 rfl rfl rfl rfl rfl (by repeat (first | exact Pick.nil | apply Pick.take | apply Pick.leave)) (.inI (by repeat (first | exact List.Mem.head _ | apply List.Mem.tail)) .nil) (.inl rfl) ?_
  rintro _ _ _ ⟨oq, cq, rfl, hcq, rfl, rfl⟩
  refine RL.storeW Try.sizeOf81 rfl rfl rfl rfl rfl rfl rfl (ones_rep _ rfl) (by repeat (first | exact Upd.here | apply Upd.there)) (lpf _) (lp _) ?_
  refine RL.storeW Try.sizeOf81 rfl rfl rfl rfl rfl rfl rfl (ones_rep _ rfl) (by repeat (first | exact Upd.here | apply Upd.there)) (lqf _) (lq _) ?_
  refine RL.nil (NQ.seq (CW.ok [3, 4, 5, 6] rfl (CW.seq (CW.seq (CW.rg (RL.p rfl (RL.nil (NQ.seq ?_))))))))
  have hP1 : p.r.few.fr.length = 32 := hp.h1
  have hP2 : p.r.few.to.length = 32 := hp.h2
  have hQ1 : q.r.few.fr.length = 32 := hq.h1
  have hQ2 : q.r.few.to.length = 32 := hq.h2
  have hPl := few_le p.r
  have hQl := few_le q.r
  generalize p.r.few = P at *
  generalize q.r.few = Q at *
  refine CW.freezeP (A := [_, _, _]) (B := [_, _]) (.take (.take (.take (.leave (.leave .nil))))) rfl ?_
  refine CW.genI (fun J hJ => ?_)
  have mP : own op cp 83 4 P.L.length (entsV P.L) ∈ J := hJ _ (by simp)
  have mQ : own oq cq 83 4 Q.L.length (entsV Q.L) ∈ J := hJ _ (by simp)
  have mX : cel b3 x.cells 83 ∈ J := hJ _ (by simp [Ent.cells])
  clear hJ
  refine CW.fact (p := (op = none → P.L.length = 0) ∧ (oq = none → Q.L.length = 0)) (fun w hC => ⟨fun e => by subst e; exact own_none (hC.s.i _ mP), fun e => by subst e; exact own_none (hC.s.i _ mQ)⟩) (fun hno => ?_)
  refine CW.cutG (γ := Rep × Rep) (LG P Q) (fun _ => [(4, .pointer (some ⟨b1, 0, none⟩)), (5, .pointer (some ⟨b2, 0, none⟩)), (6, .pointer (some ⟨b3, 0, none⟩))]) (fun _ => J) (fun g => [cel b1 (g.1.cells (slO op P.L.length cp)) 81, cel b2 (g.2.cells (slO oq Q.L.length cq)) 81]) ?_ ?_
  ·
    refine CW.cond rfl (fun hr => ?_) (fun hr => ?_)
    ·
      have l1 : (bytes P.fr).length = 32 := by rw [List.length_map, hP1]
      refine CW.seq (CW.region (ef := [5]) (bk := [5]) (RL.fieldAddr fa_81_2 rfl rfl rfl rfl (RL.load Try.isAgg3 rfl rfl rfl rfl (Rd.get (by repeat (first | exact List.Mem.head _ | apply List.Mem.tail)) (rep_a hP1 hP2)) ?_)))
      refine RL.max rfl rfl rfl rfl rfl (RL.rem rfl rfl rfl rfl rfl (by decide) ?_)
      refine RL.fieldAddr fa_81_2 rfl rfl rfl rfl (RL.storeX (vs := [_]) (rep_set_a hP1 hP2 _) Try.sizeOf3 rfl rfl rfl rfl rfl rfl rfl rfl (by repeat (first | exact Upd.here | apply Upd.there)) (by rw [rep_len hP1 hP2]; show 0 + 64 + 1 ≤ 66; decide) ?_)
      refine RL.nil (NQ.seq (CW.ok [4, 5, 6] rfl (CW.seq (CW.region (ef := [3]) (bk := [3]) (RL.fieldAddr fa_81_0 rfl rfl rfl rfl (RL.loadA Try.isAgg78 Try.sizeOf78 rfl rfl rfl rfl (vs := bytes P.fr) (Rds.cel (by repeat (first | exact List.Mem.head _ | apply List.Mem.tail)) (rep_fr' hP1)) l1 ?_))))))
      refine RL.fieldAddr fa_81_1 rfl rfl rfl rfl (RL.storeX (vs := bytes P.fr) (rep_set_to' hP1 hP2 hP1) (by rw [l1]; exact Try.sizeOf78) rfl rfl rfl rfl rfl rfl rfl (ones_map one8 _) (by repeat (first | exact Upd.here | apply Upd.there)) (by rw [rep_len' hP1 hP2, l1]; show 0 + 32 + 32 ≤ 66; decide) ?_)
      refine RL.nil (NQ.seq (CW.seq (CW.seq (CW.rg (RL.p rfl (RL.nil (NQ.seq (CW.block ?_))))))))
      refine CW.loop (γ := Nat × List B8 × Int) (fun g => g.1 ≤ P.L.length ∧ g.2.1.length = 32) (fun g => [(4, .pointer (some ⟨b1, 0, none⟩)), (5, .pointer (some ⟨b2, 0, none⟩)), (6, .pointer (some ⟨b3, 0, none⟩)), (9, .int .i64 (g.1 : Int))]) (fun _ => J)
        (fun g => [cel b1 (Rep.cells ⟨P.fr, g.2.1, g.2.2, P.L⟩ (slO op P.L.length cp)) 81, cel b2 (Q.cells (slO oq Q.L.length cq)) 81]) (fun g => P.L.length - g.1) (0, P.fr, _) ⟨Nat.zero_le _, hP1⟩ (.cons rfl (.cons rfl (.cons rfl (.cons rfl .nil)))) (fun w h => h.rea (fun _ h => h) (by repeat (first | exact Rea.nil | (apply Rea.cons; (solve | (repeat (first | exact Del.here | apply Del.there))))))) ?_
      rintro ⟨i, T, a⟩ ⟨hi, hT⟩
      dsimp only at hi hT ⊢
      have lT : (bytes T).length = 32 := by rw [List.length_map, hT]
      refine CW.seq (CW.seq (CW.rg (RL.p rfl (RL.fieldAddr fa_81_3 rfl rfl rfl rfl (RL.load Try.isAgg79 rfl rfl rfl rfl (Rd.get (by repeat (first | exact List.Mem.head _ | apply List.Mem.tail)) (rep_sl (p := ⟨P.fr, T, a, P.L⟩) hP1 hT)) ?_)))))
      refine RL.lenS Try.runUnderlying79 rfl rfl rfl rfl (RL.p rfl (RL.nil (NQ.seq ?_)))
      refine CW.cond rfl (fun hlt => ?_) (fun hlt => ?_)
      ·
        have hlt : i < P.L.length := by simp at hlt; omega
        obtain ⟨ba, rfl⟩ : ∃ q, op = some q := by
          cases op with
          | none => exact absurd (hno.1 rfl) (by omega)
          | some q => exact ⟨q, rfl⟩
        have hx := List.getElem?_eq_getElem hlt
        generalize P.L[i] = y at hx
        have r0 : ∀ H, Rds J H ⟨ba, 0 + i * 4, none⟩ y.cells := fun H => own_rdsI mP hx (fun _ _ => rfl)
        have a1 : RdI J ⟨ba, 0 + i * 4 + 0, none⟩ (.int .i64 y.t) := ⟨fun H => by have := (r0 H).rd (j := 0) (v := .int .i64 y.t) rfl; rwa [add_none] at this⟩
        have a2 : RdI J ⟨ba, 0 + i * 4 + 1, none⟩ (.int .i64 y.k) := ⟨fun H => by have := (r0 H).rd (j := 1) (v := .int .i64 y.k) rfl; rwa [add_none] at this⟩
        have a3 : RdI J ⟨ba, 0 + i * 4 + 2, none⟩ (.int .i64 y.s) := ⟨fun H => by have := (r0 H).rd (j := 2) (v := .int .i64 y.s) rfl; rwa [add_none] at this⟩
        have a4 : RdI J ⟨ba, 0 + i * 4 + 3, none⟩ (.int .i64 y.e) := ⟨fun H => by have := (r0 H).rd (j := 3) (v := .int .i64 y.e) rfl; rwa [add_none] at this⟩
        have hN := nx_len T y
        have lN : (bytes (nxD T y)).length = 32 := by rw [List.length_map, hN]
        refine CW.skip (NQ.seq (CW.seq (CW.block (CW.regionD (Sq.of [0, 1, 2, 3, 4, 5, 6, 7, 8, 9, 10, 11, 12, 13, 14, 15, 16, 17, 18, 19, 20, 21, 22, 23, 24, 25, 26, 27, 28, 29, 30, 31, 32]) [32] [32] [0, 2, 4, 5, 6, 8, 10, 11, 12, 14, 16, 17, 18, 20, 22, 23, 24, 26, 28, 29, 30, 31] mixed (by kernel_rfl) ?_))))
        refine RL.fieldAddr fa_81_1 rfl rfl rfl rfl (RL.loadA Try.isAgg78 Try.sizeOf78 rfl rfl rfl rfl (vs := bytes T) (Rds.cel (by repeat (first | exact List.Mem.head _ | apply List.Mem.tail)) (rep_to (p := ⟨P.fr, T, a, P.L⟩) hP1)) lT ?_)
        refine RL.fieldAddr fa_81_3 rfl rfl rfl rfl (RL.load Try.isAgg79 rfl rfl rfl rfl (Rd.get (by repeat (first | exact List.Mem.head _ | apply List.Mem.tail)) (rep_sl (p := ⟨P.fr, T, a, P.L⟩) hP1 hT)) ?_)
        refine RL.p rfl (RL.idxAt (j := i) Try.runUnderlying79 Try.sizeOf83 rfl rfl rfl rfl rfl rfl (hlt) (RL.fieldAddr fa_83_0 rfl rfl rfl rfl (RL.loadq Try.isAgg3 rfl rfl rfl rfl ?_)))
        refine RL.fieldAddr fa_81_3 rfl rfl rfl rfl (RL.load Try.isAgg79 rfl rfl rfl rfl (Rd.get (by repeat (first | exact List.Mem.head _ | apply List.Mem.tail)) (rep_sl (p := ⟨P.fr, T, a, P.L⟩) hP1 hT)) ?_)
        refine RL.p rfl (RL.idxAt (j := i) Try.runUnderlying79 Try.sizeOf83 rfl rfl rfl rfl rfl rfl (hlt) (RL.fieldAddr fa_83_1 rfl rfl rfl rfl (RL.loadq Try.isAgg3 rfl rfl rfl rfl ?_)))
        refine RL.fieldAddr fa_81_3 rfl rfl rfl rfl (RL.load Try.isAgg79 rfl rfl rfl rfl (Rd.get (by repeat (first | exact List.Mem.head _ | apply List.Mem.tail)) (rep_sl (p := ⟨P.fr, T, a, P.L⟩) hP1 hT)) ?_)
        refine RL.p rfl (RL.idxAt (j := i) Try.runUnderlying79 Try.sizeOf83 rfl rfl rfl rfl rfl rfl (hlt) (RL.fieldAddr fa_83_2 rfl rfl rfl rfl (RL.loadq Try.isAgg3 rfl rfl rfl rfl ?_)))
        refine RL.fieldAddr fa_81_3 rfl rfl rfl rfl (RL.load Try.isAgg79 rfl rfl rfl rfl (Rd.get (by repeat (first | exact List.Mem.head _ | apply List.Mem.tail)) (rep_sl (p := ⟨P.fr, T, a, P.L⟩) hP1 hT)) ?_)
        refine RL.p rfl (RL.idxAt (j := i) Try.runUnderlying79 Try.sizeOf83 rfl rfl rfl rfl rfl rfl (hlt) (RL.fieldAddr fa_83_3 rfl rfl rfl rfl (RL.loadq Try.isAgg3 rfl rfl rfl rfl ?_)))
        refine RL.buildS [_, _, _, _] Try.zeroValue87 pl_87 rfl rfl rfl rfl rfl (RL.callvq (rnx_any T hT y) Try.call28 rfl rfl rfl rfl ?_)
        refine RL.p rfl (RL.p rfl (RL.p rfl (RL.fieldAddr fa_81_1 rfl rfl rfl rfl (RL.storeX (vs := bytes (nxD T y)) (rep_set_to (p := ⟨P.fr, T, a, P.L⟩) hP1 hT hN) (by rw [lN]; exact Try.sizeOf78) rfl rfl rfl rfl rfl rfl rfl (ones_map one8 _) (by repeat (first | exact Upd.here | apply Upd.there)) (by rw [rep_len (p := ⟨P.fr, T, a, P.L⟩) hP1 hT, lN]; show 0 + 32 + 32 ≤ 66; decide) ?_))))
        refine RL.nil (NQ.block (NQ.seq (CW.ok [4, 5, 6, 9] rfl (CW.rg (RL.p rfl (RL.bx rfl (wrapV_i64 (by omega) (by omega)) ?_))))))
        refine RL.p rfl (RL.nil ?_)
        refine NQ.round (g := (i, T, a)) (i + 1, nxD T y, a) ⟨hlt, hN⟩ (by show P.L.length - (i + 1) < P.L.length - i; omega) (.cons rfl (.cons rfl (.cons rfl (.cons rfl .nil)))) (fun w h => h.rea (fun _ h => h) (by repeat (first | exact Rea.nil | (apply Rea.cons; (solve | (repeat (first | exact Del.here | apply Del.there)))))))
      ·
        have l2 : (bytes Q.to).length = 32 := by rw [List.length_map, hQ2]
        refine CW.exit (XQ.seq (XQ.seq (XQ.hit (NQ.seq (CW.ok [4, 5, 6] rfl (CW.seq ?_))))))
        refine CW.cutG (γ := Int) (fun _ => True) (fun _ => [(4, .pointer (some ⟨b1, 0, none⟩)), (5, .pointer (some ⟨b2, 0, none⟩)), (6, .pointer (some ⟨b3, 0, none⟩))]) (fun _ => J) (fun g => [cel b1 (Rep.cells ⟨P.fr, T, a, P.L⟩ (slO op P.L.length cp)) 81, cel b2 (Rep.cells ⟨T, T, g, Q.L⟩ (slO oq Q.L.length cq)) 81]) ?_ ?_
        ·
          refine CW.regionD (.cons 0 (.cons 1 (.cons 2 (.cons 4 (.cons 6 (.cons 10 (.fork [3, 5, 7, 11] (fun k => (bif Nat.beq k 3 then (.fork [5, 7, 11] (fun k => (bif Nat.beq k 5 then (.fork [7, 11] (fun k => (bif Nat.beq k 7 then (Sq.of [8, 9, 11, 12, 13, 14, 15]) else (.cons 12 (.fork [7, 13] (fun k => (bif Nat.beq k 7 then (Sq.of [8, 9, 13, 14, 15]) else (Sq.of [7, 8, 9, 14, 15])))))))) else (bif Nat.beq k 7 then (.cons 8 (.fork [5, 11] (fun k => (bif Nat.beq k 5 then (Sq.of [9, 11, 12, 13, 14, 15]) else (.cons 12 (.fork [5, 13] (fun k => (bif Nat.beq k 5 then (Sq.of [9, 13, 14, 15]) else (Sq.of [5, 9, 14, 15]))))))))) else (.cons 12 (.fork [5, 7, 13] (fun k => (bif Nat.beq k 5 then (.fork [7, 13] (fun k => (bif Nat.beq k 7 then (Sq.of [8, 9, 13, 14, 15]) else (Sq.of [7, 8, 9, 14, 15])))) else (bif Nat.beq k 7 then (.cons 8 (.fork [5, 13] (fun k => (bif Nat.beq k 5 then (Sq.of [9, 13, 14, 15]) else (Sq.of [5, 9, 14, 15]))))) else (Sq.of [5, 7, 8, 9, 14, 15])))))))))) else (bif Nat.beq k 5 then (.fork [3, 7, 11] (fun k => (bif Nat.beq k 3 then (.fork [7, 11] (fun k => (bif Nat.beq k 7 then (Sq.of [8, 9, 11, 12, 13, 14, 15]) else (.cons 12 (.fork [7, 13] (fun k => (bif Nat.beq k 7 then (Sq.of [8, 9, 13, 14, 15]) else (Sq.of [7, 8, 9, 14, 15])))))))) else (bif Nat.beq k 7 then (.cons 8 (.cons 9 (.fork [3, 11] (fun k => (bif Nat.beq k 3 then (Sq.of [11, 12, 13, 14, 15]) else (Sq.of [3, 12, 13, 14, 15])))))) else (.cons 3 (.cons 12 (.fork [7, 13] (fun k => (bif Nat.beq k 7 then (Sq.of [8, 9, 13, 14, 15]) else (Sq.of [7, 8, 9, 14, 15])))))))))) else (bif Nat.beq k 7 then (.cons 8 (.fork [3, 5, 11] (fun k => (bif Nat.beq k 3 then (.fork [5, 11] (fun k => (bif Nat.beq k 5 then (Sq.of [9, 11, 12, 13, 14, 15]) else (.cons 12 (.fork [5, 13] (fun k => (bif Nat.beq k 5 then (Sq.of [9, 13, 14, 15]) else (Sq.of [5, 9, 14, 15])))))))) else (bif Nat.beq k 5 then (.cons 9 (.fork [3, 11] (fun k => (bif Nat.beq k 3 then (Sq.of [11, 12, 13, 14, 15]) else (Sq.of [3, 12, 13, 14, 15]))))) else (.cons 3 (.cons 12 (.fork [5, 13] (fun k => (bif Nat.beq k 5 then (Sq.of [9, 13, 14, 15]) else (Sq.of [5, 9, 14, 15]))))))))))) else (.cons 3 (.cons 12 (.fork [5, 7, 13] (fun k => (bif Nat.beq k 5 then (.fork [7, 13] (fun k => (bif Nat.beq k 7 then (Sq.of [8, 9, 13, 14, 15]) else (Sq.of [7, 8, 9, 14, 15])))) else (bif Nat.beq k 7 then (.cons 8 (.fork [5, 13] (fun k => (bif Nat.beq k 5 then (Sq.of [9, 13, 14, 15]) else (Sq.of [5, 9, 14, 15]))))) else (Sq.of [5, 7, 8, 9, 14, 15])))))))))))))))))) [11, 13, 15] [11, 13, 15] [0, 2, 4, 6, 8, 9, 10, 12, 14] mixed (by kernel_rfl) ?_
          refine RL.fieldAddr fa_81_1 rfl rfl rfl rfl (RL.loadA Try.isAgg78 Try.sizeOf78 rfl rfl rfl rfl (vs := bytes T) (Rds.cel (by repeat (first | exact List.Mem.head _ | apply List.Mem.tail)) (rep_to (p := ⟨P.fr, T, a, P.L⟩) hP1)) lT ?_)
          refine RL.fieldAddr fa_81_1 rfl rfl rfl rfl (RL.fieldAddr fa_81_2 rfl rfl rfl rfl (RL.fieldAddr fa_81_3 rfl rfl rfl rfl (RL.fieldAddr fa_81_0 rfl rfl rfl rfl ?_)))
          refine RL.fork ⟨?_, ?_, ?_, ?_, trivial⟩
          ·
            refine RL.loadA Try.isAgg78 Try.sizeOf78 rfl rfl rfl rfl (vs := bytes T) (Rds.cel (by repeat (first | exact List.Mem.head _ | apply List.Mem.tail)) (rep_to (p := ⟨P.fr, T, a, P.L⟩) hP1)) lT ?_
            refine RL.fork ⟨?_, ?_, ?_, trivial⟩
            ·
              refine RL.load Try.isAgg3 rfl rfl rfl rfl (Rd.get (by repeat (first | exact List.Mem.head _ | apply List.Mem.tail)) (rep_a (p := ⟨P.fr, T, a, P.L⟩) hP1 hT)) ?_
              refine RL.fork ⟨?_, ?_, trivial⟩
              ·
                refine RL.load Try.isAgg79 rfl rfl rfl rfl (Rd.get (by repeat (first | exact List.Mem.head _ | apply List.Mem.tail)) (rep_sl (p := ⟨P.fr, T, a, P.L⟩) hP1 hT)) ?_
                refine RL.lenS Try.runUnderlying79 rfl rfl rfl rfl (RL.p rfl (RL.storeX (vs := bytes T) (rep_set_fr (p := Q) hQ1 hT) (by rw [lT]; exact Try.sizeOf78) rfl rfl rfl rfl rfl rfl rfl (ones_map one8 _) (by repeat (first | exact Upd.here | apply Upd.there)) (by rw [rep_len (p := Q) hQ1 hQ2, lT]; show 0 + 0 + 32 ≤ 66; decide) ?_))
                refine RL.fieldAddr fa_81_1 rfl rfl rfl rfl (RL.storeX (vs := bytes T) (rep_set_to (p := ⟨T, Q.to, Q.a, Q.L⟩) hT hQ2 hT) (by rw [lT]; exact Try.sizeOf78) rfl rfl rfl rfl rfl rfl rfl (ones_map one8 _) (by repeat (first | exact Upd.here | apply Upd.there)) (by rw [rep_len (p := ⟨T, Q.to, Q.a, Q.L⟩) hT hQ2, lT]; show 0 + 32 + 32 ≤ 66; decide) ?_)
                refine RL.fieldAddr fa_81_2 rfl rfl rfl rfl (RL.storeX (vs := [_]) (rep_set_a (p := ⟨T, T, Q.a, Q.L⟩) hT hT _) Try.sizeOf3 rfl rfl rfl rfl rfl rfl rfl rfl (by repeat (first | exact Upd.here | apply Upd.there)) (by rw [rep_len (p := ⟨T, T, Q.a, Q.L⟩) hT hT]; show 0 + 64 + 1 ≤ 66; decide) ?_)
                refine RL.nil ?_
                exact NQ.midG _ trivial (.cons rfl (.cons rfl (.cons rfl .nil))) (fun w h => h.rea (fun _ h => h) (by repeat (first | exact Rea.nil | (apply Rea.cons; (solve | (repeat (first | exact Del.here | apply Del.there)))))))
              ·
                refine RL.storeX (vs := bytes T) (rep_set_fr (p := Q) hQ1 hT) (by rw [lT]; exact Try.sizeOf78) rfl rfl rfl rfl rfl rfl rfl (ones_map one8 _) (by repeat (first | exact Upd.here | apply Upd.there)) (by rw [rep_len (p := Q) hQ1 hQ2, lT]; show 0 + 0 + 32 ≤ 66; decide) ?_
                refine RL.fieldAddr fa_81_1 rfl rfl rfl rfl ?_
                refine RL.fork ⟨?_, ?_, trivial⟩
                ·
                  refine RL.load Try.isAgg79 rfl rfl rfl rfl (Rd.get (by repeat (first | exact List.Mem.head _ | apply List.Mem.tail)) (rep_sl (p := ⟨P.fr, T, a, P.L⟩) hP1 hT)) ?_
                  refine RL.lenS Try.runUnderlying79 rfl rfl rfl rfl (RL.p rfl (RL.storeX (vs := bytes T) (rep_set_to (p := ⟨T, Q.to, Q.a, Q.L⟩) hT hQ2 hT) (by rw [lT]; exact Try.sizeOf78) rfl rfl rfl rfl rfl rfl rfl (ones_map one8 _) (by repeat (first | exact Upd.here | apply Upd.there)) (by rw [rep_len (p := ⟨T, Q.to, Q.a, Q.L⟩) hT hQ2, lT]; show 0 + 32 + 32 ≤ 66; decide) ?_))
                  refine RL.fieldAddr fa_81_2 rfl rfl rfl rfl (RL.storeX (vs := [_]) (rep_set_a (p := ⟨T, T, Q.a, Q.L⟩) hT hT _) Try.sizeOf3 rfl rfl rfl rfl rfl rfl rfl rfl (by repeat (first | exact Upd.here | apply Upd.there)) (by rw [rep_len (p := ⟨T, T, Q.a, Q.L⟩) hT hT]; show 0 + 64 + 1 ≤ 66; decide) ?_)
                  refine RL.nil ?_
                  exact NQ.midG _ trivial (.cons rfl (.cons rfl (.cons rfl .nil))) (fun w h => h.rea (fun _ h => h) (by repeat (first | exact Rea.nil | (apply Rea.cons; (solve | (repeat (first | exact Del.here | apply Del.there)))))))
                ·
                  refine RL.storeX (vs := bytes T) (rep_set_to (p := ⟨T, Q.to, Q.a, Q.L⟩) hT hQ2 hT) (by rw [lT]; exact Try.sizeOf78) rfl rfl rfl rfl rfl rfl rfl (ones_map one8 _) (by repeat (first | exact Upd.here | apply Upd.there)) (by rw [rep_len (p := ⟨T, Q.to, Q.a, Q.L⟩) hT hQ2, lT]; show 0 + 32 + 32 ≤ 66; decide) ?_
                  refine RL.load Try.isAgg79 rfl rfl rfl rfl (Rd.get (by repeat (first | exact List.Mem.head _ | apply List.Mem.tail)) (rep_sl (p := ⟨P.fr, T, a, P.L⟩) hP1 hT)) ?_
                  refine RL.lenS Try.runUnderlying79 rfl rfl rfl rfl (RL.p rfl (RL.fieldAddr fa_81_2 rfl rfl rfl rfl (RL.storeX (vs := [_]) (rep_set_a (p := ⟨T, T, Q.a, Q.L⟩) hT hT _) Try.sizeOf3 rfl rfl rfl rfl rfl rfl rfl rfl (by repeat (first | exact Upd.here | apply Upd.there)) (by rw [rep_len (p := ⟨T, T, Q.a, Q.L⟩) hT hT]; show 0 + 64 + 1 ≤ 66; decide) ?_)))
                  refine RL.nil ?_
                  exact NQ.midG _ trivial (.cons rfl (.cons rfl (.cons rfl .nil))) (fun w h => h.rea (fun _ h => h) (by repeat (first | exact Rea.nil | (apply Rea.cons; (solve | (repeat (first | exact Del.here | apply Del.there)))))))
            ·
              refine RL.load Try.isAgg79 rfl rfl rfl rfl (Rd.get (by repeat (first | exact List.Mem.head _ | apply List.Mem.tail)) (rep_sl (p := ⟨P.fr, T, a, P.L⟩) hP1 hT)) ?_
              refine RL.lenS Try.runUnderlying79 rfl rfl rfl rfl ?_
              refine RL.fork ⟨?_, ?_, trivial⟩
              ·
                refine RL.load Try.isAgg3 rfl rfl rfl rfl (Rd.get (by repeat (first | exact List.Mem.head _ | apply List.Mem.tail)) (rep_a (p := ⟨P.fr, T, a, P.L⟩) hP1 hT)) ?_
                refine RL.p rfl (RL.storeX (vs := bytes T) (rep_set_fr (p := Q) hQ1 hT) (by rw [lT]; exact Try.sizeOf78) rfl rfl rfl rfl rfl rfl rfl (ones_map one8 _) (by repeat (first | exact Upd.here | apply Upd.there)) (by rw [rep_len (p := Q) hQ1 hQ2, lT]; show 0 + 0 + 32 ≤ 66; decide) ?_)
                refine RL.fieldAddr fa_81_1 rfl rfl rfl rfl (RL.storeX (vs := bytes T) (rep_set_to (p := ⟨T, Q.to, Q.a, Q.L⟩) hT hQ2 hT) (by rw [lT]; exact Try.sizeOf78) rfl rfl rfl rfl rfl rfl rfl (ones_map one8 _) (by repeat (first | exact Upd.here | apply Upd.there)) (by rw [rep_len (p := ⟨T, Q.to, Q.a, Q.L⟩) hT hQ2, lT]; show 0 + 32 + 32 ≤ 66; decide) ?_)
                refine RL.fieldAddr fa_81_2 rfl rfl rfl rfl (RL.storeX (vs := [_]) (rep_set_a (p := ⟨T, T, Q.a, Q.L⟩) hT hT _) Try.sizeOf3 rfl rfl rfl rfl rfl rfl rfl rfl (by repeat (first | exact Upd.here | apply Upd.there)) (by rw [rep_len (p := ⟨T, T, Q.a, Q.L⟩) hT hT]; show 0 + 64 + 1 ≤ 66; decide) ?_)
                refine RL.nil ?_
                exact NQ.midG _ trivial (.cons rfl (.cons rfl (.cons rfl .nil))) (fun w h => h.rea (fun _ h => h) (by repeat (first | exact Rea.nil | (apply Rea.cons; (solve | (repeat (first | exact Del.here | apply Del.there)))))))
              ·
                refine RL.storeX (vs := bytes T) (rep_set_fr (p := Q) hQ1 hT) (by rw [lT]; exact Try.sizeOf78) rfl rfl rfl rfl rfl rfl rfl (ones_map one8 _) (by repeat (first | exact Upd.here | apply Upd.there)) (by rw [rep_len (p := Q) hQ1 hQ2, lT]; show 0 + 0 + 32 ≤ 66; decide) ?_
                refine RL.fieldAddr fa_81_1 rfl rfl rfl rfl ?_
                refine RL.fork ⟨?_, ?_, trivial⟩
                ·
                  refine RL.load Try.isAgg3 rfl rfl rfl rfl (Rd.get (by repeat (first | exact List.Mem.head _ | apply List.Mem.tail)) (rep_a (p := ⟨P.fr, T, a, P.L⟩) hP1 hT)) ?_
                  refine RL.p rfl (RL.storeX (vs := bytes T) (rep_set_to (p := ⟨T, Q.to, Q.a, Q.L⟩) hT hQ2 hT) (by rw [lT]; exact Try.sizeOf78) rfl rfl rfl rfl rfl rfl rfl (ones_map one8 _) (by repeat (first | exact Upd.here | apply Upd.there)) (by rw [rep_len (p := ⟨T, Q.to, Q.a, Q.L⟩) hT hQ2, lT]; show 0 + 32 + 32 ≤ 66; decide) ?_)
                  refine RL.fieldAddr fa_81_2 rfl rfl rfl rfl (RL.storeX (vs := [_]) (rep_set_a (p := ⟨T, T, Q.a, Q.L⟩) hT hT _) Try.sizeOf3 rfl rfl rfl rfl rfl rfl rfl rfl (by repeat (first | exact Upd.here | apply Upd.there)) (by rw [rep_len (p := ⟨T, T, Q.a, Q.L⟩) hT hT]; show 0 + 64 + 1 ≤ 66; decide) ?_)
                  refine RL.nil ?_
                  exact NQ.midG _ trivial (.cons rfl (.cons rfl (.cons rfl .nil))) (fun w h => h.rea (fun _ h => h) (by repeat (first | exact Rea.nil | (apply Rea.cons; (solve | (repeat (first | exact Del.here | apply Del.there)))))))
                ·
                  refine RL.storeX (vs := bytes T) (rep_set_to (p := ⟨T, Q.to, Q.a, Q.L⟩) hT hQ2 hT) (by rw [lT]; exact Try.sizeOf78) rfl rfl rfl rfl rfl rfl rfl (ones_map one8 _) (by repeat (first | exact Upd.here | apply Upd.there)) (by rw [rep_len (p := ⟨T, Q.to, Q.a, Q.L⟩) hT hQ2, lT]; show 0 + 32 + 32 ≤ 66; decide) ?_
                  refine RL.load Try.isAgg3 rfl rfl rfl rfl (Rd.get (by repeat (first | exact List.Mem.head _ | apply List.Mem.tail)) (rep_a (p := ⟨P.fr, T, a, P.L⟩) hP1 hT)) ?_
                  refine RL.p rfl (RL.fieldAddr fa_81_2 rfl rfl rfl rfl (RL.storeX (vs := [_]) (rep_set_a (p := ⟨T, T, Q.a, Q.L⟩) hT hT _) Try.sizeOf3 rfl rfl rfl rfl rfl rfl rfl rfl (by repeat (first | exact Upd.here | apply Upd.there)) (by rw [rep_len (p := ⟨T, T, Q.a, Q.L⟩) hT hT]; show 0 + 64 + 1 ≤ 66; decide) ?_))
                  refine RL.nil ?_
                  exact NQ.midG _ trivial (.cons rfl (.cons rfl (.cons rfl .nil))) (fun w h => h.rea (fun _ h => h) (by repeat (first | exact Rea.nil | (apply Rea.cons; (solve | (repeat (first | exact Del.here | apply Del.there)))))))
            ·
              refine RL.storeX (vs := bytes T) (rep_set_fr (p := Q) hQ1 hT) (by rw [lT]; exact Try.sizeOf78) rfl rfl rfl rfl rfl rfl rfl (ones_map one8 _) (by repeat (first | exact Upd.here | apply Upd.there)) (by rw [rep_len (p := Q) hQ1 hQ2, lT]; show 0 + 0 + 32 ≤ 66; decide) ?_
              refine RL.fieldAddr fa_81_1 rfl rfl rfl rfl ?_
              refine RL.fork ⟨?_, ?_, ?_, trivial⟩
              ·
                refine RL.load Try.isAgg3 rfl rfl rfl rfl (Rd.get (by repeat (first | exact List.Mem.head _ | apply List.Mem.tail)) (rep_a (p := ⟨P.fr, T, a, P.L⟩) hP1 hT)) ?_
                refine RL.fork ⟨?_, ?_, trivial⟩
                ·
                  refine RL.load Try.isAgg79 rfl rfl rfl rfl (Rd.get (by repeat (first | exact List.Mem.head _ | apply List.Mem.tail)) (rep_sl (p := ⟨P.fr, T, a, P.L⟩) hP1 hT)) ?_
                  refine RL.lenS Try.runUnderlying79 rfl rfl rfl rfl (RL.p rfl (RL.storeX (vs := bytes T) (rep_set_to (p := ⟨T, Q.to, Q.a, Q.L⟩) hT hQ2 hT) (by rw [lT]; exact Try.sizeOf78) rfl rfl rfl rfl rfl rfl rfl (ones_map one8 _) (by repeat (first | exact Upd.here | apply Upd.there)) (by rw [rep_len (p := ⟨T, Q.to, Q.a, Q.L⟩) hT hQ2, lT]; show 0 + 32 + 32 ≤ 66; decide) ?_))
                  refine RL.fieldAddr fa_81_2 rfl rfl rfl rfl (RL.storeX (vs := [_]) (rep_set_a (p := ⟨T, T, Q.a, Q.L⟩) hT hT _) Try.sizeOf3 rfl rfl rfl rfl rfl rfl rfl rfl (by repeat (first | exact Upd.here | apply Upd.there)) (by rw [rep_len (p := ⟨T, T, Q.a, Q.L⟩) hT hT]; show 0 + 64 + 1 ≤ 66; decide) ?_)
                  refine RL.nil ?_
                  exact NQ.midG _ trivial (.cons rfl (.cons rfl (.cons rfl .nil))) (fun w h => h.rea (fun _ h => h) (by repeat (first | exact Rea.nil | (apply Rea.cons; (solve | (repeat (first | exact Del.here | apply Del.there)))))))
                ·
                  refine RL.storeX (vs := bytes T) (rep_set_to (p := ⟨T, Q.to, Q.a, Q.L⟩) hT hQ2 hT) (by rw [lT]; exact Try.sizeOf78) rfl rfl rfl rfl rfl rfl rfl (ones_map one8 _) (by repeat (first | exact Upd.here | apply Upd.there)) (by rw [rep_len (p := ⟨T, Q.to, Q.a, Q.L⟩) hT hQ2, lT]; show 0 + 32 + 32 ≤ 66; decide) ?_
                  refine RL.load Try.isAgg79 rfl rfl rfl rfl (Rd.get (by repeat (first | exact List.Mem.head _ | apply List.Mem.tail)) (rep_sl (p := ⟨P.fr, T, a, P.L⟩) hP1 hT)) ?_
                  refine RL.lenS Try.runUnderlying79 rfl rfl rfl rfl (RL.p rfl (RL.fieldAddr fa_81_2 rfl rfl rfl rfl (RL.storeX (vs := [_]) (rep_set_a (p := ⟨T, T, Q.a, Q.L⟩) hT hT _) Try.sizeOf3 rfl rfl rfl rfl rfl rfl rfl rfl (by repeat (first | exact Upd.here | apply Upd.there)) (by rw [rep_len (p := ⟨T, T, Q.a, Q.L⟩) hT hT]; show 0 + 64 + 1 ≤ 66; decide) ?_)))
                  refine RL.nil ?_
                  exact NQ.midG _ trivial (.cons rfl (.cons rfl (.cons rfl .nil))) (fun w h => h.rea (fun _ h => h) (by repeat (first | exact Rea.nil | (apply Rea.cons; (solve | (repeat (first | exact Del.here | apply Del.there)))))))
              ·
                refine RL.load Try.isAgg79 rfl rfl rfl rfl (Rd.get (by repeat (first | exact List.Mem.head _ | apply List.Mem.tail)) (rep_sl (p := ⟨P.fr, T, a, P.L⟩) hP1 hT)) ?_
                refine RL.lenS Try.runUnderlying79 rfl rfl rfl rfl ?_
                refine RL.fork ⟨?_, ?_, trivial⟩
                ·
                  refine RL.load Try.isAgg3 rfl rfl rfl rfl (Rd.get (by repeat (first | exact List.Mem.head _ | apply List.Mem.tail)) (rep_a (p := ⟨P.fr, T, a, P.L⟩) hP1 hT)) ?_
                  refine RL.p rfl (RL.storeX (vs := bytes T) (rep_set_to (p := ⟨T, Q.to, Q.a, Q.L⟩) hT hQ2 hT) (by rw [lT]; exact Try.sizeOf78) rfl rfl rfl rfl rfl rfl rfl (ones_map one8 _) (by repeat (first | exact Upd.here | apply Upd.there)) (by rw [rep_len (p := ⟨T, Q.to, Q.a, Q.L⟩) hT hQ2, lT]; show 0 + 32 + 32 ≤ 66; decide) ?_)
                  refine RL.fieldAddr fa_81_2 rfl rfl rfl rfl (RL.storeX (vs := [_]) (rep_set_a (p := ⟨T, T, Q.a, Q.L⟩) hT hT _) Try.sizeOf3 rfl rfl rfl rfl rfl rfl rfl rfl (by repeat (first | exact Upd.here | apply Upd.there)) (by rw [rep_len (p := ⟨T, T, Q.a, Q.L⟩) hT hT]; show 0 + 64 + 1 ≤ 66; decide) ?_)
                  refine RL.nil ?_
                  exact NQ.midG _ trivial (.cons rfl (.cons rfl (.cons rfl .nil))) (fun w h => h.rea (fun _ h => h) (by repeat (first | exact Rea.nil | (apply Rea.cons; (solve | (repeat (first | exact Del.here | apply Del.there)))))))
                ·
                  refine RL.storeX (vs := bytes T) (rep_set_to (p := ⟨T, Q.to, Q.a, Q.L⟩) hT hQ2 hT) (by rw [lT]; exact Try.sizeOf78) rfl rfl rfl rfl rfl rfl rfl (ones_map one8 _) (by repeat (first | exact Upd.here | apply Upd.there)) (by rw [rep_len (p := ⟨T, Q.to, Q.a, Q.L⟩) hT hQ2, lT]; show 0 + 32 + 32 ≤ 66; decide) ?_
                  refine RL.load Try.isAgg3 rfl rfl rfl rfl (Rd.get (by repeat (first | exact List.Mem.head _ | apply List.Mem.tail)) (rep_a (p := ⟨P.fr, T, a, P.L⟩) hP1 hT)) ?_
                  refine RL.p rfl (RL.fieldAddr fa_81_2 rfl rfl rfl rfl (RL.storeX (vs := [_]) (rep_set_a (p := ⟨T, T, Q.a, Q.L⟩) hT hT _) Try.sizeOf3 rfl rfl rfl rfl rfl rfl rfl rfl (by repeat (first | exact Upd.here | apply Upd.there)) (by rw [rep_len (p := ⟨T, T, Q.a, Q.L⟩) hT hT]; show 0 + 64 + 1 ≤ 66; decide) ?_))
                  refine RL.nil ?_
                  exact NQ.midG _ trivial (.cons rfl (.cons rfl (.cons rfl .nil))) (fun w h => h.rea (fun _ h => h) (by repeat (first | exact Rea.nil | (apply Rea.cons; (solve | (repeat (first | exact Del.here | apply Del.there)))))))
              ·
                refine RL.storeX (vs := bytes T) (rep_set_to (p := ⟨T, Q.to, Q.a, Q.L⟩) hT hQ2 hT) (by rw [lT]; exact Try.sizeOf78) rfl rfl rfl rfl rfl rfl rfl (ones_map one8 _) (by repeat (first | exact Upd.here | apply Upd.there)) (by rw [rep_len (p := ⟨T, Q.to, Q.a, Q.L⟩) hT hQ2, lT]; show 0 + 32 + 32 ≤ 66; decide) ?_
                refine RL.load Try.isAgg3 rfl rfl rfl rfl (Rd.get (by repeat (first | exact List.Mem.head _ | apply List.Mem.tail)) (rep_a (p := ⟨P.fr, T, a, P.L⟩) hP1 hT)) ?_
                refine RL.load Try.isAgg79 rfl rfl rfl rfl (Rd.get (by repeat (first | exact List.Mem.head _ | apply List.Mem.tail)) (rep_sl (p := ⟨P.fr, T, a, P.L⟩) hP1 hT)) ?_
                refine RL.lenS Try.runUnderlying79 rfl rfl rfl rfl (RL.p rfl (RL.fieldAddr fa_81_2 rfl rfl rfl rfl (RL.storeX (vs := [_]) (rep_set_a (p := ⟨T, T, Q.a, Q.L⟩) hT hT _) Try.sizeOf3 rfl rfl rfl rfl rfl rfl rfl rfl (by repeat (first | exact Upd.here | apply Upd.there)) (by rw [rep_len (p := ⟨T, T, Q.a, Q.L⟩) hT hT]; show 0 + 64 + 1 ≤ 66; decide) ?_)))
                refine RL.nil ?_
                exact NQ.midG _ trivial (.cons rfl (.cons rfl (.cons rfl .nil))) (fun w h => h.rea (fun _ h => h) (by repeat (first | exact Rea.nil | (apply Rea.cons; (solve | (repeat (first | exact Del.here | apply Del.there)))))))
          ·
            refine RL.load Try.isAgg3 rfl rfl rfl rfl (Rd.get (by repeat (first | exact List.Mem.head _ | apply List.Mem.tail)) (rep_a (p := ⟨P.fr, T, a, P.L⟩) hP1 hT)) ?_
            refine RL.fork ⟨?_, ?_, ?_, trivial⟩
            ·
              refine RL.loadA Try.isAgg78 Try.sizeOf78 rfl rfl rfl rfl (vs := bytes T) (Rds.cel (by repeat (first | exact List.Mem.head _ | apply List.Mem.tail)) (rep_to (p := ⟨P.fr, T, a, P.L⟩) hP1)) lT ?_
              refine RL.fork ⟨?_, ?_, trivial⟩
              ·
                refine RL.load Try.isAgg79 rfl rfl rfl rfl (Rd.get (by repeat (first | exact List.Mem.head _ | apply List.Mem.tail)) (rep_sl (p := ⟨P.fr, T, a, P.L⟩) hP1 hT)) ?_
                refine RL.lenS Try.runUnderlying79 rfl rfl rfl rfl (RL.p rfl (RL.storeX (vs := bytes T) (rep_set_fr (p := Q) hQ1 hT) (by rw [lT]; exact Try.sizeOf78) rfl rfl rfl rfl rfl rfl rfl (ones_map one8 _) (by repeat (first | exact Upd.here | apply Upd.there)) (by rw [rep_len (p := Q) hQ1 hQ2, lT]; show 0 + 0 + 32 ≤ 66; decide) ?_))
                refine RL.fieldAddr fa_81_1 rfl rfl rfl rfl (RL.storeX (vs := bytes T) (rep_set_to (p := ⟨T, Q.to, Q.a, Q.L⟩) hT hQ2 hT) (by rw [lT]; exact Try.sizeOf78) rfl rfl rfl rfl rfl rfl rfl (ones_map one8 _) (by repeat (first | exact Upd.here | apply Upd.there)) (by rw [rep_len (p := ⟨T, Q.to, Q.a, Q.L⟩) hT hQ2, lT]; show 0 + 32 + 32 ≤ 66; decide) ?_)
                refine RL.fieldAddr fa_81_2 rfl rfl rfl rfl (RL.storeX (vs := [_]) (rep_set_a (p := ⟨T, T, Q.a, Q.L⟩) hT hT _) Try.sizeOf3 rfl rfl rfl rfl rfl rfl rfl rfl (by repeat (first | exact Upd.here | apply Upd.there)) (by rw [rep_len (p := ⟨T, T, Q.a, Q.L⟩) hT hT]; show 0 + 64 + 1 ≤ 66; decide) ?_)
                refine RL.nil ?_
                exact NQ.midG _ trivial (.cons rfl (.cons rfl (.cons rfl .nil))) (fun w h => h.rea (fun _ h => h) (by repeat (first | exact Rea.nil | (apply Rea.cons; (solve | (repeat (first | exact Del.here | apply Del.there)))))))
              ·
                refine RL.storeX (vs := bytes T) (rep_set_fr (p := Q) hQ1 hT) (by rw [lT]; exact Try.sizeOf78) rfl rfl rfl rfl rfl rfl rfl (ones_map one8 _) (by repeat (first | exact Upd.here | apply Upd.there)) (by rw [rep_len (p := Q) hQ1 hQ2, lT]; show 0 + 0 + 32 ≤ 66; decide) ?_
                refine RL.fieldAddr fa_81_1 rfl rfl rfl rfl ?_
                refine RL.fork ⟨?_, ?_, trivial⟩
                ·
                  refine RL.load Try.isAgg79 rfl rfl rfl rfl (Rd.get (by repeat (first | exact List.Mem.head _ | apply List.Mem.tail)) (rep_sl (p := ⟨P.fr, T, a, P.L⟩) hP1 hT)) ?_
                  refine RL.lenS Try.runUnderlying79 rfl rfl rfl rfl (RL.p rfl (RL.storeX (vs := bytes T) (rep_set_to (p := ⟨T, Q.to, Q.a, Q.L⟩) hT hQ2 hT) (by rw [lT]; exact Try.sizeOf78) rfl rfl rfl rfl rfl rfl rfl (ones_map one8 _) (by repeat (first | exact Upd.here | apply Upd.there)) (by rw [rep_len (p := ⟨T, Q.to, Q.a, Q.L⟩) hT hQ2, lT]; show 0 + 32 + 32 ≤ 66; decide) ?_))
                  refine RL.fieldAddr fa_81_2 rfl rfl rfl rfl (RL.storeX (vs := [_]) (rep_set_a (p := ⟨T, T, Q.a, Q.L⟩) hT hT _) Try.sizeOf3 rfl rfl rfl rfl rfl rfl rfl rfl (by repeat (first | exact Upd.here | apply Upd.there)) (by rw [rep_len (p := ⟨T, T, Q.a, Q.L⟩) hT hT]; show 0 + 64 + 1 ≤ 66; decide) ?_)
                  refine RL.nil ?_
                  exact NQ.midG _ trivial (.cons rfl (.cons rfl (.cons rfl .nil))) (fun w h => h.rea (fun _ h => h) (by repeat (first | exact Rea.nil | (apply Rea.cons; (solve | (repeat (first | exact Del.here | apply Del.there)))))))
                ·
                  refine RL.storeX (vs := bytes T) (rep_set_to (p := ⟨T, Q.to, Q.a, Q.L⟩) hT hQ2 hT) (by rw [lT]; exact Try.sizeOf78) rfl rfl rfl rfl rfl rfl rfl (ones_map one8 _) (by repeat (first | exact Upd.here | apply Upd.there)) (by rw [rep_len (p := ⟨T, Q.to, Q.a, Q.L⟩) hT hQ2, lT]; show 0 + 32 + 32 ≤ 66; decide) ?_
                  refine RL.load Try.isAgg79 rfl rfl rfl rfl (Rd.get (by repeat (first | exact List.Mem.head _ | apply List.Mem.tail)) (rep_sl (p := ⟨P.fr, T, a, P.L⟩) hP1 hT)) ?_
                  refine RL.lenS Try.runUnderlying79 rfl rfl rfl rfl (RL.p rfl (RL.fieldAddr fa_81_2 rfl rfl rfl rfl (RL.storeX (vs := [_]) (rep_set_a (p := ⟨T, T, Q.a, Q.L⟩) hT hT _) Try.sizeOf3 rfl rfl rfl rfl rfl rfl rfl rfl (by repeat (first | exact Upd.here | apply Upd.there)) (by rw [rep_len (p := ⟨T, T, Q.a, Q.L⟩) hT hT]; show 0 + 64 + 1 ≤ 66; decide) ?_)))
                  refine RL.nil ?_
                  exact NQ.midG _ trivial (.cons rfl (.cons rfl (.cons rfl .nil))) (fun w h => h.rea (fun _ h => h) (by repeat (first | exact Rea.nil | (apply Rea.cons; (solve | (repeat (first | exact Del.here | apply Del.there)))))))
            ·
              refine RL.load Try.isAgg79 rfl rfl rfl rfl (Rd.get (by repeat (first | exact List.Mem.head _ | apply List.Mem.tail)) (rep_sl (p := ⟨P.fr, T, a, P.L⟩) hP1 hT)) ?_
              refine RL.lenS Try.runUnderlying79 rfl rfl rfl rfl (RL.p rfl ?_)
              refine RL.fork ⟨?_, ?_, trivial⟩
              ·
                refine RL.loadA Try.isAgg78 Try.sizeOf78 rfl rfl rfl rfl (vs := bytes T) (Rds.cel (by repeat (first | exact List.Mem.head _ | apply List.Mem.tail)) (rep_to (p := ⟨P.fr, T, a, P.L⟩) hP1)) lT ?_
                refine RL.storeX (vs := bytes T) (rep_set_fr (p := Q) hQ1 hT) (by rw [lT]; exact Try.sizeOf78) rfl rfl rfl rfl rfl rfl rfl (ones_map one8 _) (by repeat (first | exact Upd.here | apply Upd.there)) (by rw [rep_len (p := Q) hQ1 hQ2, lT]; show 0 + 0 + 32 ≤ 66; decide) ?_
                refine RL.fieldAddr fa_81_1 rfl rfl rfl rfl (RL.storeX (vs := bytes T) (rep_set_to (p := ⟨T, Q.to, Q.a, Q.L⟩) hT hQ2 hT) (by rw [lT]; exact Try.sizeOf78) rfl rfl rfl rfl rfl rfl rfl (ones_map one8 _) (by repeat (first | exact Upd.here | apply Upd.there)) (by rw [rep_len (p := ⟨T, Q.to, Q.a, Q.L⟩) hT hQ2, lT]; show 0 + 32 + 32 ≤ 66; decide) ?_)
                refine RL.fieldAddr fa_81_2 rfl rfl rfl rfl (RL.storeX (vs := [_]) (rep_set_a (p := ⟨T, T, Q.a, Q.L⟩) hT hT _) Try.sizeOf3 rfl rfl rfl rfl rfl rfl rfl rfl (by repeat (first | exact Upd.here | apply Upd.there)) (by rw [rep_len (p := ⟨T, T, Q.a, Q.L⟩) hT hT]; show 0 + 64 + 1 ≤ 66; decide) ?_)
                refine RL.nil ?_
                exact NQ.midG _ trivial (.cons rfl (.cons rfl (.cons rfl .nil))) (fun w h => h.rea (fun _ h => h) (by repeat (first | exact Rea.nil | (apply Rea.cons; (solve | (repeat (first | exact Del.here | apply Del.there)))))))
              ·
                refine RL.storeX (vs := bytes T) (rep_set_fr (p := Q) hQ1 hT) (by rw [lT]; exact Try.sizeOf78) rfl rfl rfl rfl rfl rfl rfl (ones_map one8 _) (by repeat (first | exact Upd.here | apply Upd.there)) (by rw [rep_len (p := Q) hQ1 hQ2, lT]; show 0 + 0 + 32 ≤ 66; decide) ?_
                refine RL.loadA Try.isAgg78 Try.sizeOf78 rfl rfl rfl rfl (vs := bytes T) (Rds.cel (by repeat (first | exact List.Mem.head _ | apply List.Mem.tail)) (rep_to (p := ⟨P.fr, T, a, P.L⟩) hP1)) lT ?_
                refine RL.fieldAddr fa_81_1 rfl rfl rfl rfl (RL.storeX (vs := bytes T) (rep_set_to (p := ⟨T, Q.to, Q.a, Q.L⟩) hT hQ2 hT) (by rw [lT]; exact Try.sizeOf78) rfl rfl rfl rfl rfl rfl rfl (ones_map one8 _) (by repeat (first | exact Upd.here | apply Upd.there)) (by rw [rep_len (p := ⟨T, Q.to, Q.a, Q.L⟩) hT hQ2, lT]; show 0 + 32 + 32 ≤ 66; decide) ?_)
                refine RL.fieldAddr fa_81_2 rfl rfl rfl rfl (RL.storeX (vs := [_]) (rep_set_a (p := ⟨T, T, Q.a, Q.L⟩) hT hT _) Try.sizeOf3 rfl rfl rfl rfl rfl rfl rfl rfl (by repeat (first | exact Upd.here | apply Upd.there)) (by rw [rep_len (p := ⟨T, T, Q.a, Q.L⟩) hT hT]; show 0 + 64 + 1 ≤ 66; decide) ?_)
                refine RL.nil ?_
                exact NQ.midG _ trivial (.cons rfl (.cons rfl (.cons rfl .nil))) (fun w h => h.rea (fun _ h => h) (by repeat (first | exact Rea.nil | (apply Rea.cons; (solve | (repeat (first | exact Del.here | apply Del.there)))))))
            ·
              refine RL.storeX (vs := bytes T) (rep_set_fr (p := Q) hQ1 hT) (by rw [lT]; exact Try.sizeOf78) rfl rfl rfl rfl rfl rfl rfl (ones_map one8 _) (by repeat (first | exact Upd.here | apply Upd.there)) (by rw [rep_len (p := Q) hQ1 hQ2, lT]; show 0 + 0 + 32 ≤ 66; decide) ?_
              refine RL.loadA Try.isAgg78 Try.sizeOf78 rfl rfl rfl rfl (vs := bytes T) (Rds.cel (by repeat (first | exact List.Mem.head _ | apply List.Mem.tail)) (rep_to (p := ⟨P.fr, T, a, P.L⟩) hP1)) lT ?_
              refine RL.fieldAddr fa_81_1 rfl rfl rfl rfl ?_
              refine RL.fork ⟨?_, ?_, trivial⟩
              ·
                refine RL.load Try.isAgg79 rfl rfl rfl rfl (Rd.get (by repeat (first | exact List.Mem.head _ | apply List.Mem.tail)) (rep_sl (p := ⟨P.fr, T, a, P.L⟩) hP1 hT)) ?_
                refine RL.lenS Try.runUnderlying79 rfl rfl rfl rfl (RL.p rfl (RL.storeX (vs := bytes T) (rep_set_to (p := ⟨T, Q.to, Q.a, Q.L⟩) hT hQ2 hT) (by rw [lT]; exact Try.sizeOf78) rfl rfl rfl rfl rfl rfl rfl (ones_map one8 _) (by repeat (first | exact Upd.here | apply Upd.there)) (by rw [rep_len (p := ⟨T, Q.to, Q.a, Q.L⟩) hT hQ2, lT]; show 0 + 32 + 32 ≤ 66; decide) ?_))
                refine RL.fieldAddr fa_81_2 rfl rfl rfl rfl (RL.storeX (vs := [_]) (rep_set_a (p := ⟨T, T, Q.a, Q.L⟩) hT hT _) Try.sizeOf3 rfl rfl rfl rfl rfl rfl rfl rfl (by repeat (first | exact Upd.here | apply Upd.there)) (by rw [rep_len (p := ⟨T, T, Q.a, Q.L⟩) hT hT]; show 0 + 64 + 1 ≤ 66; decide) ?_)
                refine RL.nil ?_
                exact NQ.midG _ trivial (.cons rfl (.cons rfl (.cons rfl .nil))) (fun w h => h.rea (fun _ h => h) (by repeat (first | exact Rea.nil | (apply Rea.cons; (solve | (repeat (first | exact Del.here | apply Del.there)))))))
              ·
                refine RL.storeX (vs := bytes T) (rep_set_to (p := ⟨T, Q.to, Q.a, Q.L⟩) hT hQ2 hT) (by rw [lT]; exact Try.sizeOf78) rfl rfl rfl rfl rfl rfl rfl (ones_map one8 _) (by repeat (first | exact Upd.here | apply Upd.there)) (by rw [rep_len (p := ⟨T, Q.to, Q.a, Q.L⟩) hT hQ2, lT]; show 0 + 32 + 32 ≤ 66; decide) ?_
                refine RL.load Try.isAgg79 rfl rfl rfl rfl (Rd.get (by repeat (first | exact List.Mem.head _ | apply List.Mem.tail)) (rep_sl (p := ⟨P.fr, T, a, P.L⟩) hP1 hT)) ?_
                refine RL.lenS Try.runUnderlying79 rfl rfl rfl rfl (RL.p rfl (RL.fieldAddr fa_81_2 rfl rfl rfl rfl (RL.storeX (vs := [_]) (rep_set_a (p := ⟨T, T, Q.a, Q.L⟩) hT hT _) Try.sizeOf3 rfl rfl rfl rfl rfl rfl rfl rfl (by repeat (first | exact Upd.here | apply Upd.there)) (by rw [rep_len (p := ⟨T, T, Q.a, Q.L⟩) hT hT]; show 0 + 64 + 1 ≤ 66; decide) ?_)))
                refine RL.nil ?_
                exact NQ.midG _ trivial (.cons rfl (.cons rfl (.cons rfl .nil))) (fun w h => h.rea (fun _ h => h) (by repeat (first | exact Rea.nil | (apply Rea.cons; (solve | (repeat (first | exact Del.here | apply Del.there)))))))
          ·
            refine RL.load Try.isAgg79 rfl rfl rfl rfl (Rd.get (by repeat (first | exact List.Mem.head _ | apply List.Mem.tail)) (rep_sl (p := ⟨P.fr, T, a, P.L⟩) hP1 hT)) ?_
            refine RL.lenS Try.runUnderlying79 rfl rfl rfl rfl ?_
            refine RL.fork ⟨?_, ?_, ?_, trivial⟩
            ·
              refine RL.loadA Try.isAgg78 Try.sizeOf78 rfl rfl rfl rfl (vs := bytes T) (Rds.cel (by repeat (first | exact List.Mem.head _ | apply List.Mem.tail)) (rep_to (p := ⟨P.fr, T, a, P.L⟩) hP1)) lT ?_
              refine RL.fork ⟨?_, ?_, trivial⟩
              ·
                refine RL.load Try.isAgg3 rfl rfl rfl rfl (Rd.get (by repeat (first | exact List.Mem.head _ | apply List.Mem.tail)) (rep_a (p := ⟨P.fr, T, a, P.L⟩) hP1 hT)) ?_
                refine RL.p rfl (RL.storeX (vs := bytes T) (rep_set_fr (p := Q) hQ1 hT) (by rw [lT]; exact Try.sizeOf78) rfl rfl rfl rfl rfl rfl rfl (ones_map one8 _) (by repeat (first | exact Upd.here | apply Upd.there)) (by rw [rep_len (p := Q) hQ1 hQ2, lT]; show 0 + 0 + 32 ≤ 66; decide) ?_)
                refine RL.fieldAddr fa_81_1 rfl rfl rfl rfl (RL.storeX (vs := bytes T) (rep_set_to (p := ⟨T, Q.to, Q.a, Q.L⟩) hT hQ2 hT) (by rw [lT]; exact Try.sizeOf78) rfl rfl rfl rfl rfl rfl rfl (ones_map one8 _) (by repeat (first | exact Upd.here | apply Upd.there)) (by rw [rep_len (p := ⟨T, Q.to, Q.a, Q.L⟩) hT hQ2, lT]; show 0 + 32 + 32 ≤ 66; decide) ?_)
                refine RL.fieldAddr fa_81_2 rfl rfl rfl rfl (RL.storeX (vs := [_]) (rep_set_a (p := ⟨T, T, Q.a, Q.L⟩) hT hT _) Try.sizeOf3 rfl rfl rfl rfl rfl rfl rfl rfl (by repeat (first | exact Upd.here | apply Upd.there)) (by rw [rep_len (p := ⟨T, T, Q.a, Q.L⟩) hT hT]; show 0 + 64 + 1 ≤ 66; decide) ?_)
                refine RL.nil ?_
                exact NQ.midG _ trivial (.cons rfl (.cons rfl (.cons rfl .nil))) (fun w h => h.rea (fun _ h => h) (by repeat (first | exact Rea.nil | (apply Rea.cons; (solve | (repeat (first | exact Del.here | apply Del.there)))))))
              ·
                refine RL.storeX (vs := bytes T) (rep_set_fr (p := Q) hQ1 hT) (by rw [lT]; exact Try.sizeOf78) rfl rfl rfl rfl rfl rfl rfl (ones_map one8 _) (by repeat (first | exact Upd.here | apply Upd.there)) (by rw [rep_len (p := Q) hQ1 hQ2, lT]; show 0 + 0 + 32 ≤ 66; decide) ?_
                refine RL.fieldAddr fa_81_1 rfl rfl rfl rfl ?_
                refine RL.fork ⟨?_, ?_, trivial⟩
                ·
                  refine RL.load Try.isAgg3 rfl rfl rfl rfl (Rd.get (by repeat (first | exact List.Mem.head _ | apply List.Mem.tail)) (rep_a (p := ⟨P.fr, T, a, P.L⟩) hP1 hT)) ?_
                  refine RL.p rfl (RL.storeX (vs := bytes T) (rep_set_to (p := ⟨T, Q.to, Q.a, Q.L⟩) hT hQ2 hT) (by rw [lT]; exact Try.sizeOf78) rfl rfl rfl rfl rfl rfl rfl (ones_map one8 _) (by repeat (first | exact Upd.here | apply Upd.there)) (by rw [rep_len (p := ⟨T, Q.to, Q.a, Q.L⟩) hT hQ2, lT]; show 0 + 32 + 32 ≤ 66; decide) ?_)
                  refine RL.fieldAddr fa_81_2 rfl rfl rfl rfl (RL.storeX (vs := [_]) (rep_set_a (p := ⟨T, T, Q.a, Q.L⟩) hT hT _) Try.sizeOf3 rfl rfl rfl rfl rfl rfl rfl rfl (by repeat (first | exact Upd.here | apply Upd.there)) (by rw [rep_len (p := ⟨T, T, Q.a, Q.L⟩) hT hT]; show 0 + 64 + 1 ≤ 66; decide) ?_)
                  refine RL.nil ?_
                  exact NQ.midG _ trivial (.cons rfl (.cons rfl (.cons rfl .nil))) (fun w h => h.rea (fun _ h => h) (by repeat (first | exact Rea.nil | (apply Rea.cons; (solve | (repeat (first | exact Del.here | apply Del.there)))))))
                ·
                  refine RL.storeX (vs := bytes T) (rep_set_to (p := ⟨T, Q.to, Q.a, Q.L⟩) hT hQ2 hT) (by rw [lT]; exact Try.sizeOf78) rfl rfl rfl rfl rfl rfl rfl (ones_map one8 _) (by repeat (first | exact Upd.here | apply Upd.there)) (by rw [rep_len (p := ⟨T, Q.to, Q.a, Q.L⟩) hT hQ2, lT]; show 0 + 32 + 32 ≤ 66; decide) ?_
                  refine RL.load Try.isAgg3 rfl rfl rfl rfl (Rd.get (by repeat (first | exact List.Mem.head _ | apply List.Mem.tail)) (rep_a (p := ⟨P.fr, T, a, P.L⟩) hP1 hT)) ?_
                  refine RL.p rfl (RL.fieldAddr fa_81_2 rfl rfl rfl rfl (RL.storeX (vs := [_]) (rep_set_a (p := ⟨T, T, Q.a, Q.L⟩) hT hT _) Try.sizeOf3 rfl rfl rfl rfl rfl rfl rfl rfl (by repeat (first | exact Upd.here | apply Upd.there)) (by rw [rep_len (p := ⟨T, T, Q.a, Q.L⟩) hT hT]; show 0 + 64 + 1 ≤ 66; decide) ?_))
                  refine RL.nil ?_
                  exact NQ.midG _ trivial (.cons rfl (.cons rfl (.cons rfl .nil))) (fun w h => h.rea (fun _ h => h) (by repeat (first | exact Rea.nil | (apply Rea.cons; (solve | (repeat (first | exact Del.here | apply Del.there)))))))
            ·
              refine RL.load Try.isAgg3 rfl rfl rfl rfl (Rd.get (by repeat (first | exact List.Mem.head _ | apply List.Mem.tail)) (rep_a (p := ⟨P.fr, T, a, P.L⟩) hP1 hT)) ?_
              refine RL.p rfl ?_
              refine RL.fork ⟨?_, ?_, trivial⟩
              ·
                refine RL.loadA Try.isAgg78 Try.sizeOf78 rfl rfl rfl rfl (vs := bytes T) (Rds.cel (by repeat (first | exact List.Mem.head _ | apply List.Mem.tail)) (rep_to (p := ⟨P.fr, T, a, P.L⟩) hP1)) lT ?_
                refine RL.storeX (vs := bytes T) (rep_set_fr (p := Q) hQ1 hT) (by rw [lT]; exact Try.sizeOf78) rfl rfl rfl rfl rfl rfl rfl (ones_map one8 _) (by repeat (first | exact Upd.here | apply Upd.there)) (by rw [rep_len (p := Q) hQ1 hQ2, lT]; show 0 + 0 + 32 ≤ 66; decide) ?_
                refine RL.fieldAddr fa_81_1 rfl rfl rfl rfl (RL.storeX (vs := bytes T) (rep_set_to (p := ⟨T, Q.to, Q.a, Q.L⟩) hT hQ2 hT) (by rw [lT]; exact Try.sizeOf78) rfl rfl rfl rfl rfl rfl rfl (ones_map one8 _) (by repeat (first | exact Upd.here | apply Upd.there)) (by rw [rep_len (p := ⟨T, Q.to, Q.a, Q.L⟩) hT hQ2, lT]; show 0 + 32 + 32 ≤ 66; decide) ?_)
                refine RL.fieldAddr fa_81_2 rfl rfl rfl rfl (RL.storeX (vs := [_]) (rep_set_a (p := ⟨T, T, Q.a, Q.L⟩) hT hT _) Try.sizeOf3 rfl rfl rfl rfl rfl rfl rfl rfl (by repeat (first | exact Upd.here | apply Upd.there)) (by rw [rep_len (p := ⟨T, T, Q.a, Q.L⟩) hT hT]; show 0 + 64 + 1 ≤ 66; decide) ?_)
                refine RL.nil ?_
                exact NQ.midG _ trivial (.cons rfl (.cons rfl (.cons rfl .nil))) (fun w h => h.rea (fun _ h => h) (by repeat (first | exact Rea.nil | (apply Rea.cons; (solve | (repeat (first | exact Del.here | apply Del.there)))))))
              ·
                refine RL.storeX (vs := bytes T) (rep_set_fr (p := Q) hQ1 hT) (by rw [lT]; exact Try.sizeOf78) rfl rfl rfl rfl rfl rfl rfl (ones_map one8 _) (by repeat (first | exact Upd.here | apply Upd.there)) (by rw [rep_len (p := Q) hQ1 hQ2, lT]; show 0 + 0 + 32 ≤ 66; decide) ?_
                refine RL.loadA Try.isAgg78 Try.sizeOf78 rfl rfl rfl rfl (vs := bytes T) (Rds.cel (by repeat (first | exact List.Mem.head _ | apply List.Mem.tail)) (rep_to (p := ⟨P.fr, T, a, P.L⟩) hP1)) lT ?_
                refine RL.fieldAddr fa_81_1 rfl rfl rfl rfl (RL.storeX (vs := bytes T) (rep_set_to (p := ⟨T, Q.to, Q.a, Q.L⟩) hT hQ2 hT) (by rw [lT]; exact Try.sizeOf78) rfl rfl rfl rfl rfl rfl rfl (ones_map one8 _) (by repeat (first | exact Upd.here | apply Upd.there)) (by rw [rep_len (p := ⟨T, Q.to, Q.a, Q.L⟩) hT hQ2, lT]; show 0 + 32 + 32 ≤ 66; decide) ?_)
                refine RL.fieldAddr fa_81_2 rfl rfl rfl rfl (RL.storeX (vs := [_]) (rep_set_a (p := ⟨T, T, Q.a, Q.L⟩) hT hT _) Try.sizeOf3 rfl rfl rfl rfl rfl rfl rfl rfl (by repeat (first | exact Upd.here | apply Upd.there)) (by rw [rep_len (p := ⟨T, T, Q.a, Q.L⟩) hT hT]; show 0 + 64 + 1 ≤ 66; decide) ?_)
                refine RL.nil ?_
                exact NQ.midG _ trivial (.cons rfl (.cons rfl (.cons rfl .nil))) (fun w h => h.rea (fun _ h => h) (by repeat (first | exact Rea.nil | (apply Rea.cons; (solve | (repeat (first | exact Del.here | apply Del.there)))))))
            ·
              refine RL.storeX (vs := bytes T) (rep_set_fr (p := Q) hQ1 hT) (by rw [lT]; exact Try.sizeOf78) rfl rfl rfl rfl rfl rfl rfl (ones_map one8 _) (by repeat (first | exact Upd.here | apply Upd.there)) (by rw [rep_len (p := Q) hQ1 hQ2, lT]; show 0 + 0 + 32 ≤ 66; decide) ?_
              refine RL.loadA Try.isAgg78 Try.sizeOf78 rfl rfl rfl rfl (vs := bytes T) (Rds.cel (by repeat (first | exact List.Mem.head _ | apply List.Mem.tail)) (rep_to (p := ⟨P.fr, T, a, P.L⟩) hP1)) lT ?_
              refine RL.fieldAddr fa_81_1 rfl rfl rfl rfl ?_
              refine RL.fork ⟨?_, ?_, trivial⟩
              ·
                refine RL.load Try.isAgg3 rfl rfl rfl rfl (Rd.get (by repeat (first | exact List.Mem.head _ | apply List.Mem.tail)) (rep_a (p := ⟨P.fr, T, a, P.L⟩) hP1 hT)) ?_
                refine RL.p rfl (RL.storeX (vs := bytes T) (rep_set_to (p := ⟨T, Q.to, Q.a, Q.L⟩) hT hQ2 hT) (by rw [lT]; exact Try.sizeOf78) rfl rfl rfl rfl rfl rfl rfl (ones_map one8 _) (by repeat (first | exact Upd.here | apply Upd.there)) (by rw [rep_len (p := ⟨T, Q.to, Q.a, Q.L⟩) hT hQ2, lT]; show 0 + 32 + 32 ≤ 66; decide) ?_)
                refine RL.fieldAddr fa_81_2 rfl rfl rfl rfl (RL.storeX (vs := [_]) (rep_set_a (p := ⟨T, T, Q.a, Q.L⟩) hT hT _) Try.sizeOf3 rfl rfl rfl rfl rfl rfl rfl rfl (by repeat (first | exact Upd.here | apply Upd.there)) (by rw [rep_len (p := ⟨T, T, Q.a, Q.L⟩) hT hT]; show 0 + 64 + 1 ≤ 66; decide) ?_)
                refine RL.nil ?_
                exact NQ.midG _ trivial (.cons rfl (.cons rfl (.cons rfl .nil))) (fun w h => h.rea (fun _ h => h) (by repeat (first | exact Rea.nil | (apply Rea.cons; (solve | (repeat (first | exact Del.here | apply Del.there)))))))
              ·
                refine RL.storeX (vs := bytes T) (rep_set_to (p := ⟨T, Q.to, Q.a, Q.L⟩) hT hQ2 hT) (by rw [lT]; exact Try.sizeOf78) rfl rfl rfl rfl rfl rfl rfl (ones_map one8 _) (by repeat (first | exact Upd.here | apply Upd.there)) (by rw [rep_len (p := ⟨T, Q.to, Q.a, Q.L⟩) hT hQ2, lT]; show 0 + 32 + 32 ≤ 66; decide) ?_
                refine RL.load Try.isAgg3 rfl rfl rfl rfl (Rd.get (by repeat (first | exact List.Mem.head _ | apply List.Mem.tail)) (rep_a (p := ⟨P.fr, T, a, P.L⟩) hP1 hT)) ?_
                refine RL.p rfl (RL.fieldAddr fa_81_2 rfl rfl rfl rfl (RL.storeX (vs := [_]) (rep_set_a (p := ⟨T, T, Q.a, Q.L⟩) hT hT _) Try.sizeOf3 rfl rfl rfl rfl rfl rfl rfl rfl (by repeat (first | exact Upd.here | apply Upd.there)) (by rw [rep_len (p := ⟨T, T, Q.a, Q.L⟩) hT hT]; show 0 + 64 + 1 ≤ 66; decide) ?_))
                refine RL.nil ?_
                exact NQ.midG _ trivial (.cons rfl (.cons rfl (.cons rfl .nil))) (fun w h => h.rea (fun _ h => h) (by repeat (first | exact Rea.nil | (apply Rea.cons; (solve | (repeat (first | exact Del.here | apply Del.there)))))))
          ·
            refine RL.storeX (vs := bytes T) (rep_set_fr (p := Q) hQ1 hT) (by rw [lT]; exact Try.sizeOf78) rfl rfl rfl rfl rfl rfl rfl (ones_map one8 _) (by repeat (first | exact Upd.here | apply Upd.there)) (by rw [rep_len (p := Q) hQ1 hQ2, lT]; show 0 + 0 + 32 ≤ 66; decide) ?_
            refine RL.loadA Try.isAgg78 Try.sizeOf78 rfl rfl rfl rfl (vs := bytes T) (Rds.cel (by repeat (first | exact List.Mem.head _ | apply List.Mem.tail)) (rep_to (p := ⟨P.fr, T, a, P.L⟩) hP1)) lT ?_
            refine RL.fieldAddr fa_81_1 rfl rfl rfl rfl ?_
            refine RL.fork ⟨?_, ?_, ?_, trivial⟩
            ·
              refine RL.load Try.isAgg3 rfl rfl rfl rfl (Rd.get (by repeat (first | exact List.Mem.head _ | apply List.Mem.tail)) (rep_a (p := ⟨P.fr, T, a, P.L⟩) hP1 hT)) ?_
              refine RL.fork ⟨?_, ?_, trivial⟩
              ·
                refine RL.load Try.isAgg79 rfl rfl rfl rfl (Rd.get (by repeat (first | exact List.Mem.head _ | apply List.Mem.tail)) (rep_sl (p := ⟨P.fr, T, a, P.L⟩) hP1 hT)) ?_
                refine RL.lenS Try.runUnderlying79 rfl rfl rfl rfl (RL.p rfl (RL.storeX (vs := bytes T) (rep_set_to (p := ⟨T, Q.to, Q.a, Q.L⟩) hT hQ2 hT) (by rw [lT]; exact Try.sizeOf78) rfl rfl rfl rfl rfl rfl rfl (ones_map one8 _) (by repeat (first | exact Upd.here | apply Upd.there)) (by rw [rep_len (p := ⟨T, Q.to, Q.a, Q.L⟩) hT hQ2, lT]; show 0 + 32 + 32 ≤ 66; decide) ?_))
                refine RL.fieldAddr fa_81_2 rfl rfl rfl rfl (RL.storeX (vs := [_]) (rep_set_a (p := ⟨T, T, Q.a, Q.L⟩) hT hT _) Try.sizeOf3 rfl rfl rfl rfl rfl rfl rfl rfl (by repeat (first | exact Upd.here | apply Upd.there)) (by rw [rep_len (p := ⟨T, T, Q.a, Q.L⟩) hT hT]; show 0 + 64 + 1 ≤ 66; decide) ?_)
                refine RL.nil ?_
                exact NQ.midG _ trivial (.cons rfl (.cons rfl (.cons rfl .nil))) (fun w h => h.rea (fun _ h => h) (by repeat (first | exact Rea.nil | (apply Rea.cons; (solve | (repeat (first | exact Del.here | apply Del.there)))))))
              ·
                refine RL.storeX (vs := bytes T) (rep_set_to (p := ⟨T, Q.to, Q.a, Q.L⟩) hT hQ2 hT) (by rw [lT]; exact Try.sizeOf78) rfl rfl rfl rfl rfl rfl rfl (ones_map one8 _) (by repeat (first | exact Upd.here | apply Upd.there)) (by rw [rep_len (p := ⟨T, Q.to, Q.a, Q.L⟩) hT hQ2, lT]; show 0 + 32 + 32 ≤ 66; decide) ?_
                refine RL.load Try.isAgg79 rfl rfl rfl rfl (Rd.get (by repeat (first | exact List.Mem.head _ | apply List.Mem.tail)) (rep_sl (p := ⟨P.fr, T, a, P.L⟩) hP1 hT)) ?_
                refine RL.lenS Try.runUnderlying79 rfl rfl rfl rfl (RL.p rfl (RL.fieldAddr fa_81_2 rfl rfl rfl rfl (RL.storeX (vs := [_]) (rep_set_a (p := ⟨T, T, Q.a, Q.L⟩) hT hT _) Try.sizeOf3 rfl rfl rfl rfl rfl rfl rfl rfl (by repeat (first | exact Upd.here | apply Upd.there)) (by rw [rep_len (p := ⟨T, T, Q.a, Q.L⟩) hT hT]; show 0 + 64 + 1 ≤ 66; decide) ?_)))
                refine RL.nil ?_
                exact NQ.midG _ trivial (.cons rfl (.cons rfl (.cons rfl .nil))) (fun w h => h.rea (fun _ h => h) (by repeat (first | exact Rea.nil | (apply Rea.cons; (solve | (repeat (first | exact Del.here | apply Del.there)))))))
            ·
              refine RL.load Try.isAgg79 rfl rfl rfl rfl (Rd.get (by repeat (first | exact List.Mem.head _ | apply List.Mem.tail)) (rep_sl (p := ⟨P.fr, T, a, P.L⟩) hP1 hT)) ?_
              refine RL.lenS Try.runUnderlying79 rfl rfl rfl rfl ?_
              refine RL.fork ⟨?_, ?_, trivial⟩
              ·
                refine RL.load Try.isAgg3 rfl rfl rfl rfl (Rd.get (by repeat (first | exact List.Mem.head _ | apply List.Mem.tail)) (rep_a (p := ⟨P.fr, T, a, P.L⟩) hP1 hT)) ?_
                refine RL.p rfl (RL.storeX (vs := bytes T) (rep_set_to (p := ⟨T, Q.to, Q.a, Q.L⟩) hT hQ2 hT) (by rw [lT]; exact Try.sizeOf78) rfl rfl rfl rfl rfl rfl rfl (ones_map one8 _) (by repeat (first | exact Upd.here | apply Upd.there)) (by rw [rep_len (p := ⟨T, Q.to, Q.a, Q.L⟩) hT hQ2, lT]; show 0 + 32 + 32 ≤ 66; decide) ?_)
                refine RL.fieldAddr fa_81_2 rfl rfl rfl rfl (RL.storeX (vs := [_]) (rep_set_a (p := ⟨T, T, Q.a, Q.L⟩) hT hT _) Try.sizeOf3 rfl rfl rfl rfl rfl rfl rfl rfl (by repeat (first | exact Upd.here | apply Upd.there)) (by rw [rep_len (p := ⟨T, T, Q.a, Q.L⟩) hT hT]; show 0 + 64 + 1 ≤ 66; decide) ?_)
                refine RL.nil ?_
                exact NQ.midG _ trivial (.cons rfl (.cons rfl (.cons rfl .nil))) (fun w h => h.rea (fun _ h => h) (by repeat (first | exact Rea.nil | (apply Rea.cons; (solve | (repeat (first | exact Del.here | apply Del.there)))))))
              ·
                refine RL.storeX (vs := bytes T) (rep_set_to (p := ⟨T, Q.to, Q.a, Q.L⟩) hT hQ2 hT) (by rw [lT]; exact Try.sizeOf78) rfl rfl rfl rfl rfl rfl rfl (ones_map one8 _) (by repeat (first | exact Upd.here | apply Upd.there)) (by rw [rep_len (p := ⟨T, Q.to, Q.a, Q.L⟩) hT hQ2, lT]; show 0 + 32 + 32 ≤ 66; decide) ?_
                refine RL.load Try.isAgg3 rfl rfl rfl rfl (Rd.get (by repeat (first | exact List.Mem.head _ | apply List.Mem.tail)) (rep_a (p := ⟨P.fr, T, a, P.L⟩) hP1 hT)) ?_
                refine RL.p rfl (RL.fieldAddr fa_81_2 rfl rfl rfl rfl (RL.storeX (vs := [_]) (rep_set_a (p := ⟨T, T, Q.a, Q.L⟩) hT hT _) Try.sizeOf3 rfl rfl rfl rfl rfl rfl rfl rfl (by repeat (first | exact Upd.here | apply Upd.there)) (by rw [rep_len (p := ⟨T, T, Q.a, Q.L⟩) hT hT]; show 0 + 64 + 1 ≤ 66; decide) ?_))
                refine RL.nil ?_
                exact NQ.midG _ trivial (.cons rfl (.cons rfl (.cons rfl .nil))) (fun w h => h.rea (fun _ h => h) (by repeat (first | exact Rea.nil | (apply Rea.cons; (solve | (repeat (first | exact Del.here | apply Del.there)))))))
            ·
              refine RL.storeX (vs := bytes T) (rep_set_to (p := ⟨T, Q.to, Q.a, Q.L⟩) hT hQ2 hT) (by rw [lT]; exact Try.sizeOf78) rfl rfl rfl rfl rfl rfl rfl (ones_map one8 _) (by repeat (first | exact Upd.here | apply Upd.there)) (by rw [rep_len (p := ⟨T, Q.to, Q.a, Q.L⟩) hT hQ2, lT]; show 0 + 32 + 32 ≤ 66; decide) ?_
              refine RL.load Try.isAgg3 rfl rfl rfl rfl (Rd.get (by repeat (first | exact List.Mem.head _ | apply List.Mem.tail)) (rep_a (p := ⟨P.fr, T, a, P.L⟩) hP1 hT)) ?_
              refine RL.load Try.isAgg79 rfl rfl rfl rfl (Rd.get (by repeat (first | exact List.Mem.head _ | apply List.Mem.tail)) (rep_sl (p := ⟨P.fr, T, a, P.L⟩) hP1 hT)) ?_
              refine RL.lenS Try.runUnderlying79 rfl rfl rfl rfl (RL.p rfl (RL.fieldAddr fa_81_2 rfl rfl rfl rfl (RL.storeX (vs := [_]) (rep_set_a (p := ⟨T, T, Q.a, Q.L⟩) hT hT _) Try.sizeOf3 rfl rfl rfl rfl rfl rfl rfl rfl (by repeat (first | exact Upd.here | apply Upd.there)) (by rw [rep_len (p := ⟨T, T, Q.a, Q.L⟩) hT hT]; show 0 + 64 + 1 ≤ 66; decide) ?_)))
              refine RL.nil ?_
              exact NQ.midG _ trivial (.cons rfl (.cons rfl (.cons rfl .nil))) (fun w h => h.rea (fun _ h => h) (by repeat (first | exact Rea.nil | (apply Rea.cons; (solve | (repeat (first | exact Del.here | apply Del.there)))))))
        rintro c -
        refine CW.seq (CW.rg (RL.p rfl (RL.nil (NQ.seq (CW.block ?_)))))
        refine CW.loop (γ := Nat × List B8 × Int) (fun g => g.1 ≤ Q.L.length ∧ g.2.1.length = 32) (fun g => [(4, .pointer (some ⟨b1, 0, none⟩)), (5, .pointer (some ⟨b2, 0, none⟩)), (6, .pointer (some ⟨b3, 0, none⟩)), (10, .int .i64 (g.1 : Int))]) (fun _ => J)
          (fun g => [cel b1 (Rep.cells ⟨P.fr, T, a, P.L⟩ (slO op P.L.length cp)) 81, cel b2 (Rep.cells ⟨T, g.2.1, g.2.2, Q.L⟩ (slO oq Q.L.length cq)) 81]) (fun g => Q.L.length - g.1) (0, T, c) ⟨Nat.zero_le _, hT⟩ (.cons rfl (.cons rfl (.cons rfl (.cons rfl .nil)))) (fun w h => h.rea (fun _ h => h) (by repeat (first | exact Rea.nil | (apply Rea.cons; (solve | (repeat (first | exact Del.here | apply Del.there))))))) ?_
        rintro ⟨j, U, c⟩ ⟨hj, hU⟩
        dsimp only at hj hU ⊢
        have lU : (bytes U).length = 32 := by rw [List.length_map, hU]
        refine CW.seq (CW.seq (CW.rg (RL.p rfl (RL.fieldAddr fa_81_3 rfl rfl rfl rfl (RL.load Try.isAgg79 rfl rfl rfl rfl (Rd.get (by repeat (first | exact List.Mem.head _ | apply List.Mem.tail)) (rep_sl (p := ⟨T, U, c, Q.L⟩) hT hU)) ?_)))))
        refine RL.lenS Try.runUnderlying79 rfl rfl rfl rfl (RL.p rfl (RL.nil (NQ.seq ?_)))
        refine CW.cond rfl (fun hlt => ?_) (fun hlt => ?_)
        ·
          have hlt : j < Q.L.length := by simp at hlt; omega
          obtain ⟨ba, rfl⟩ : ∃ q, oq = some q := by
            cases oq with
            | none => exact absurd (hno.2 rfl) (by omega)
            | some q => exact ⟨q, rfl⟩
          have hx := List.getElem?_eq_getElem hlt
          generalize Q.L[j] = y at hx
          have r0 : ∀ H, Rds J H ⟨ba, 0 + j * 4, none⟩ y.cells := fun H => own_rdsI mQ hx (fun _ _ => rfl)
          have a1 : RdI J ⟨ba, 0 + j * 4 + 0, none⟩ (.int .i64 y.t) := ⟨fun H => by have := (r0 H).rd (j := 0) (v := .int .i64 y.t) rfl; rwa [add_none] at this⟩
          have a2 : RdI J ⟨ba, 0 + j * 4 + 1, none⟩ (.int .i64 y.k) := ⟨fun H => by have := (r0 H).rd (j := 1) (v := .int .i64 y.k) rfl; rwa [add_none] at this⟩
          have a3 : RdI J ⟨ba, 0 + j * 4 + 2, none⟩ (.int .i64 y.s) := ⟨fun H => by have := (r0 H).rd (j := 2) (v := .int .i64 y.s) rfl; rwa [add_none] at this⟩
          have a4 : RdI J ⟨ba, 0 + j * 4 + 3, none⟩ (.int .i64 y.e) := ⟨fun H => by have := (r0 H).rd (j := 3) (v := .int .i64 y.e) rfl; rwa [add_none] at this⟩
          have hN := nx_len U y
          have lN : (bytes (nxD U y)).length = 32 := by rw [List.length_map, hN]
          refine CW.skip (NQ.seq (CW.seq (CW.block (CW.regionD (Sq.of [0, 1, 2, 3, 4, 5, 6, 7, 8, 9, 10, 11, 12, 13, 14, 15, 16, 17, 18, 19, 20, 21, 22, 23, 24, 25, 26, 27, 28, 29, 30, 31, 32]) [32] [32] [0, 2, 4, 5, 6, 8, 10, 11, 12, 14, 16, 17, 18, 20, 22, 23, 24, 26, 28, 29, 30, 31] mixed (by kernel_rfl) ?_))))
          refine RL.fieldAddr fa_81_1 rfl rfl rfl rfl (RL.loadA Try.isAgg78 Try.sizeOf78 rfl rfl rfl rfl (vs := bytes U) (Rds.cel (by repeat (first | exact List.Mem.head _ | apply List.Mem.tail)) (rep_to (p := ⟨T, U, c, Q.L⟩) hT)) lU ?_)
          refine RL.fieldAddr fa_81_3 rfl rfl rfl rfl (RL.load Try.isAgg79 rfl rfl rfl rfl (Rd.get (by repeat (first | exact List.Mem.head _ | apply List.Mem.tail)) (rep_sl (p := ⟨T, U, c, Q.L⟩) hT hU)) ?_)
          refine RL.p rfl (RL.idxAt (j := j) Try.runUnderlying79 Try.sizeOf83 rfl rfl rfl rfl rfl rfl (hlt) (RL.fieldAddr fa_83_0 rfl rfl rfl rfl (RL.loadq Try.isAgg3 rfl rfl rfl rfl ?_)))
          refine RL.fieldAddr fa_81_3 rfl rfl rfl rfl (RL.load Try.isAgg79 rfl rfl rfl rfl (Rd.get (by repeat (first | exact List.Mem.head _ | apply List.Mem.tail)) (rep_sl (p := ⟨T, U, c, Q.L⟩) hT hU)) ?_)
          refine RL.p rfl (RL.idxAt (j := j) Try.runUnderlying79 Try.sizeOf83 rfl rfl rfl rfl rfl rfl (hlt) (RL.fieldAddr fa_83_1 rfl rfl rfl rfl (RL.loadq Try.isAgg3 rfl rfl rfl rfl ?_)))
          refine RL.fieldAddr fa_81_3 rfl rfl rfl rfl (RL.load Try.isAgg79 rfl rfl rfl rfl (Rd.get (by repeat (first | exact List.Mem.head _ | apply List.Mem.tail)) (rep_sl (p := ⟨T, U, c, Q.L⟩) hT hU)) ?_)
          refine RL.p rfl (RL.idxAt (j := j) Try.runUnderlying79 Try.sizeOf83 rfl rfl rfl rfl rfl rfl (hlt) (RL.fieldAddr fa_83_2 rfl rfl rfl rfl (RL.loadq Try.isAgg3 rfl rfl rfl rfl ?_)))
          refine RL.fieldAddr fa_81_3 rfl rfl rfl rfl (RL.load Try.isAgg79 rfl rfl rfl rfl (Rd.get (by repeat (first | exact List.Mem.head _ | apply List.Mem.tail)) (rep_sl (p := ⟨T, U, c, Q.L⟩) hT hU)) ?_)
          refine RL.p rfl (RL.idxAt (j := j) Try.runUnderlying79 Try.sizeOf83 rfl rfl rfl rfl rfl rfl (hlt) (RL.fieldAddr fa_83_3 rfl rfl rfl rfl (RL.loadq Try.isAgg3 rfl rfl rfl rfl ?_)))
          refine RL.buildS [_, _, _, _] Try.zeroValue87 pl_87 rfl rfl rfl rfl rfl (RL.callvq (rnx_any U hU y) Try.call28 rfl rfl rfl rfl ?_)
          refine RL.p rfl (RL.p rfl (RL.p rfl (RL.fieldAddr fa_81_1 rfl rfl rfl rfl (RL.storeX (vs := bytes (nxD U y)) (rep_set_to (p := ⟨T, U, c, Q.L⟩) hT hU hN) (by rw [lN]; exact Try.sizeOf78) rfl rfl rfl rfl rfl rfl rfl (ones_map one8 _) (by repeat (first | exact Upd.here | apply Upd.there)) (by rw [rep_len (p := ⟨T, U, c, Q.L⟩) hT hU, lN]; show 0 + 32 + 32 ≤ 66; decide) ?_))))
          refine RL.nil (NQ.block (NQ.seq (CW.ok [4, 5, 6, 10] rfl (CW.rg (RL.p rfl (RL.bx rfl (wrapV_i64 (by omega) (by omega)) ?_))))))
          refine RL.p rfl (RL.nil ?_)
          refine NQ.round (g := (j, U, c)) (j + 1, nxD U y, c) ⟨hlt, hN⟩ (by show Q.L.length - (j + 1) < Q.L.length - j; omega) (.cons rfl (.cons rfl (.cons rfl (.cons rfl .nil)))) (fun w h => h.rea (fun _ h => h) (by repeat (first | exact Rea.nil | (apply Rea.cons; (solve | (repeat (first | exact Del.here | apply Del.there)))))))
        ·
          refine CW.exit (XQ.seq (XQ.seq (XQ.hit ?_)))
          exact NQ.midG (⟨P.fr, T, a, P.L⟩, ⟨T, U, c, Q.L⟩) ⟨hP1, hT, hT, hU, rfl, rfl⟩ (.cons rfl (.cons rfl (.cons rfl .nil))) (fun w h => h.rea (fun _ h => h) (by repeat (first | exact Rea.nil | (apply Rea.cons; (solve | (repeat (first | exact Del.here | apply Del.there)))))))
    ·
      refine CW.skip ?_
      exact NQ.midG (P, Q) ⟨hP1, hP2, hQ1, hQ2, rfl, rfl⟩ (.cons rfl (.cons rfl (.cons rfl .nil))) (fun w h => h.rea (fun _ h => h) (by repeat (first | exact Rea.nil | (apply Rea.cons; (solve | (repeat (first | exact Del.here | apply Del.there)))))))
  rintro ⟨P1, Q1⟩ ⟨h1, h2, h3, h4, h5, h6⟩
  dsimp only at h1 h2 h3 h4 h5 h6 ⊢
  rw [← h5] at mP hPl hcp ⊢
  rw [← h6] at mQ hQl hcq ⊢
  clear hno lpf lqf h5 h6
  refine CW.freezeAll rfl ?_
  refine CW.genI (fun J2 hJ2 => ?_)
  have m1 : cel b1 (P1.cells (slO op P1.L.length cp)) 81 ∈ J2 := hJ2 _ (by simp)
  have m2 : cel b2 (Q1.cells (slO oq Q1.L.length cq)) 81 ∈ J2 := hJ2 _ (by simp)
  have hJJ : ∀ y ∈ J, y ∈ J2 := fun y hy => hJ2 y (by simp [hy])
  clear hJ2
  have mP2 := hJJ _ mP
  have mQ2 := hJJ _ mQ
  have l1 : (bytes P1.fr).length = 32 := by rw [List.length_map, h1]
  have w1 : RdsN J2 ⟨b1, 0, none⟩ 66 (P1.cells (slO op P1.L.length cp)) := ⟨fun _ => Rds.allI m1, rep_len h1 h2⟩
  have w2 : RdsN J2 ⟨b2, 0, none⟩ 66 (Q1.cells (slO oq Q1.L.length cq)) := ⟨fun _ => Rds.allI m2, rep_len h3 h4⟩
  have f1 : RdsN J2 ⟨b1, 0 + 0, none⟩ 32 (bytes P1.fr) := RdsN.told m1 (rep_fr h1) l1
  have mX2 := hJJ _ mX
  have x0 : RdsN J2 ⟨b3, 0, none⟩ 4 x.cells := ⟨fun _ => Rds.allI mX2, rfl⟩
  have x1 : RdI J2 ⟨b3, 0 + 0, none⟩ (.int .i64 x.t) := ⟨fun _ => Rd.celI mX2 rfl⟩
  have x2 : RdI J2 ⟨b3, 0 + 1, none⟩ (.int .i64 x.k) := ⟨fun _ => Rd.celI mX2 rfl⟩
  have x3 : RdI J2 ⟨b3, 0 + 2, none⟩ (.int .i64 x.s) := ⟨fun _ => Rd.celI mX2 rfl⟩
  have x4 : RdI J2 ⟨b3, 0 + 3, none⟩ (.int .i64 x.e) := ⟨fun _ => Rd.celI mX2 rfl⟩
  have hN := nx_len P1.fr x
  have lN : (bytes (nxD P1.fr x)).length = 32 := by rw [List.length_map, hN]
  have fP := tfew_any P1 (op.map fun b => ⟨b, 0, none⟩) cp P1.L.length h1 h2 rfl hcp (by simp only [maxLen]; omega)
  have fQ := tfew_any Q1 (oq.map fun b => ⟨b, 0, none⟩) cq Q1.L.length h3 h4 rfl hcq (by simp only [maxLen]; omega)
  rw [few_self hPl] at fP
  rw [few_self hQl] at fQ
  have gP := tplain_any P1 (op.map fun b => ⟨b, 0, none⟩) cp P1.L.length h1 h2 rfl (by omega)
  have gQ := tplain_any Q1 (oq.map fun b => ⟨b, 0, none⟩) cq Q1.L.length h3 h4 rfl (by omega)
  have lV := joinV_len (p := P1) (q := Q1) h1 h4
  have lVl := joinV_le (p := P1) (q := Q1) (n := 40) (by omega)
  refine CW.seq (CW.region (ef := [7, 8]) (bk := [8]) (RL.fieldAddr fa_81_0 rfl rfl rfl rfl (RL.loadSq Try.isAgg78 Try.sizeOf78 rfl rfl rfl rfl ?_)))
  refine RL.loadSq Try.isAgg83 Try.sizeOf83 rfl rfl rfl rfl ?_
  refine RL.callvq (nx_any P1.fr h1 x) Try.call29 rfl rfl rfl rfl ?_
  refine RL.p rfl (RL.p rfl (RL.p rfl (RL.alloc (cs := List.replicate 32 (U8 0#8)) Try.zeroValue78 rfl rfl rfl rfl rfl ?_)))
  intro b4
  refine RL.storeW Try.sizeOf78 rfl rfl rfl rfl rfl rfl rfl (ones_map one8 _) (by repeat (first | exact Upd.here | apply Upd.there)) lN rfl ?_
  refine RL.p rfl (RL.nil (NQ.seq (CW.ok [4, 5, 6, 11, 12] rfl (CW.seq (CW.region (ef := [15, 16]) (bk := [16]) (RL.fieldAddr fa_81_0 rfl rfl rfl rfl (RL.loadSq Try.isAgg78 Try.sizeOf78 rfl rfl rfl rfl ?_)))))))
  refine RL.fieldAddr fa_83_0 rfl rfl rfl rfl (RL.loadq Try.isAgg3 rfl rfl rfl rfl ?_)
  refine RL.fieldAddr fa_83_1 rfl rfl rfl rfl (RL.loadq Try.isAgg3 rfl rfl rfl rfl ?_)
  refine RL.fieldAddr fa_83_2 rfl rfl rfl rfl (RL.loadq Try.isAgg3 rfl rfl rfl rfl ?_)
  refine RL.fieldAddr fa_83_3 rfl rfl rfl rfl (RL.loadq Try.isAgg3 rfl rfl rfl rfl ?_)
  refine RL.buildS [_, _, _, _] Try.zeroValue87 pl_87 rfl rfl rfl rfl rfl (RL.callvq (rnx_any P1.fr h1 x) Try.call28 rfl rfl rfl rfl ?_)
  refine RL.p rfl (RL.p rfl (RL.p rfl (RL.alloc (cs := List.replicate 32 (U8 0#8)) Try.zeroValue78 rfl rfl rfl rfl rfl ?_)))
  intro b5
  refine RL.storeW Try.sizeOf78 rfl rfl rfl rfl rfl rfl rfl (ones_map one8 _) (by repeat (first | exact Upd.here | apply Upd.there)) lN rfl ?_
  refine RL.p rfl (RL.nil (NQ.seq (CW.ok [4, 5, 11, 12, 13, 14] rfl (CW.seq (CW.freezeAll rfl ?_)))))
  refine CW.genI (fun J3 hJ3 => ?_)
  have md1 : cel b4 (bytes (nxD P1.fr x)) 78 ∈ J3 := hJ3 _ (by simp)
  have md2 : cel b5 (bytes (nxD P1.fr x)) 78 ∈ J3 := hJ3 _ (by simp)
  have d1 : RdsN J3 ⟨b4, 0, none⟩ 32 (bytes (nxD P1.fr x)) := ⟨fun _ => Rds.allI (hJ3 (cel b4 (bytes (nxD P1.fr x)) 78) (by simp)), lN⟩
  have d2 : RdsN J3 ⟨b5, 0, none⟩ 32 (bytes (nxD P1.fr x)) := ⟨fun _ => Rds.allI (hJ3 (cel b5 (bytes (nxD P1.fr x)) 78) (by simp)), lN⟩
  have hJ23 : ∀ y ∈ J2, y ∈ J3 := fun y hy => hJ3 y (by simp [hy])
  clear hJ3 w1 w2 x0 x1 x2 x3 x4 f1
  have w1 : RdsN J3 ⟨b1, 0, none⟩ 66 (P1.cells (slO op P1.L.length cp)) := ⟨fun _ => Rds.allI (hJ23 _ m1), rep_len h1 h2⟩
  have w2 : RdsN J3 ⟨b2, 0, none⟩ 66 (Q1.cells (slO oq Q1.L.length cq)) := ⟨fun _ => Rds.allI (hJ23 _ m2), rep_len h3 h4⟩
  have mP3 := hJ23 _ mP2
  have mQ3 := hJ23 _ mQ2
  refine CW.cutG (γ := Nat × Option Nat × Nat) (fun _ => True) (fun g => [(4, .pointer (some ⟨b1, 0, none⟩)), (5, .pointer (some ⟨b2, 0, none⟩)), (11, .pointer (some ⟨b4, 0, none⟩)), (12, .int .i64 (nxE x)), (13, .pointer (some ⟨b5, 0, none⟩)), (14, .int .i64 (nxE x)), (15, .pointer (some ⟨g.1, 0, none⟩)), (16, .int .i64 (joinE' P1 Q1))]) (fun _ => J3) (fun g => [own g.2.1 g.2.2 83 4 (joinV P1 Q1).L.length (entsV (joinV P1 Q1).L), cel g.1 ((joinV P1 Q1).cells (slO g.2.1 (joinV P1 Q1).L.length g.2.2)) 81]) ?_ ?_
  ·
    refine CW.regionD (.cons 0 (.cons 2 (.fork [1, 8] (fun k => (bif Nat.beq k 1 then (.fork [3, 8] (fun k => (bif Nat.beq k 3 then (.fork [4, 8] (fun k => (bif Nat.beq k 4 then (Sq.of [5, 6, 7, 8, 9, 10]) else (Sq.of [4, 5, 6, 7, 9, 10])))) else (Sq.of [3, 4, 5, 6, 7, 9, 10])))) else (Sq.of [1, 3, 4, 5, 6, 7, 9, 10])))))) [1, 3, 4, 8, 9] [9] [0, 2, 5, 6, 7, 10] mixed (by kernel_rfl) ?_
    refine RL.loadSTq Try.isAgg81 Try.sizeOf81 rfl rfl rfl rfl ?_
    refine RL.loadSTq Try.isAgg81 Try.sizeOf81 rfl rfl rfl rfl ?_
    refine RL.fork ⟨?_, ?_, trivial⟩
    ·
      refine RL.call (fP) Try.call27 rfl rfl rfl rfl rfl (by repeat (first | exact Pick.nil | apply Pick.take | apply Pick.leave)) (Lend.ownI mP3 .nil) (.inl rfl) ?_
      rintro _ _ _ ⟨o1, c1, rfl, -, rfl, rfl⟩
      refine RL.fork ⟨?_, ?_, trivial⟩
      ·
        refine RL.call (fQ) Try.call27 rfl rfl rfl rfl rfl (by repeat (first | exact Pick.nil | apply Pick.take | apply Pick.leave)) (Lend.ownI mQ3 .nil) (.inl rfl) ?_
        rintro _ _ _ ⟨o2, c2, rfl, -, rfl, rfl⟩
        refine RL.fork ⟨?_, ?_, trivial⟩
        ·
          refine RL.call (join_any P1 Q1 o1 o2 c1 c2 P1.L.length Q1.L.length h1 h2 h3 h4 rfl rfl (by omega) (by omega)) Try.call30 rfl rfl rfl rfl rfl (by repeat (first | exact Pick.nil | apply Pick.take | apply Pick.leave)) (Lend.own (by repeat (first | exact List.Mem.head _ | apply List.Mem.tail)) (Lend.own (by repeat (first | exact List.Mem.head _ | apply List.Mem.tail)) .nil)) (.inl rfl) ?_
          rintro _ _ _ ⟨o3, c3, rfl, rfl, rfl⟩
          refine RL.p rfl (RL.p rfl (RL.p rfl (RL.alloc Try.zeroValue81 rfl rfl rfl rfl rfl ?_)))
          intro b6
          refine RL.storeW Try.sizeOf81 rfl rfl rfl rfl rfl rfl rfl (ones_rep _ rfl) (by repeat (first | exact Upd.here | apply Upd.there)) (rep_len lV.1 lV.2) rfl ?_
          refine RL.p rfl (RL.nil ?_)
          exact NQ.midG (b6, o3, c3) trivial (.cons rfl (.cons rfl (.cons rfl (.cons rfl (.cons rfl (.cons rfl (.cons rfl (.cons rfl .nil)))))))) (fun w h => h.rea (fun _ h => h) (by repeat (first | exact Rea.nil | (apply Rea.cons; (solve | (repeat (first | exact Del.here | apply Del.there)))))))
        ·
          refine RL.alloc Try.zeroValue81 rfl rfl rfl rfl rfl ?_
          intro b6
          refine RL.call (join_any P1 Q1 o1 o2 c1 c2 P1.L.length Q1.L.length h1 h2 h3 h4 rfl rfl (by omega) (by omega)) Try.call30 rfl rfl rfl rfl rfl (by repeat (first | exact Pick.nil | apply Pick.take | apply Pick.leave)) (Lend.own (by repeat (first | exact List.Mem.head _ | apply List.Mem.tail)) (Lend.own (by repeat (first | exact List.Mem.head _ | apply List.Mem.tail)) .nil)) (.inl rfl) ?_
          rintro _ _ _ ⟨o3, c3, rfl, rfl, rfl⟩
          refine RL.p rfl (RL.p rfl (RL.p rfl (RL.storeW Try.sizeOf81 rfl rfl rfl rfl rfl rfl rfl (ones_rep _ rfl) (by repeat (first | exact Upd.here | apply Upd.there)) (rep_len lV.1 lV.2) rfl ?_)))
          refine RL.p rfl (RL.nil ?_)
          exact NQ.midG (b6, o3, c3) trivial (.cons rfl (.cons rfl (.cons rfl (.cons rfl (.cons rfl (.cons rfl (.cons rfl (.cons rfl .nil)))))))) (fun w h => h.rea (fun _ h => h) (by repeat (first | exact Rea.nil | (apply Rea.cons; (solve | (repeat (first | exact Del.here | apply Del.there)))))))
      ·
        refine RL.alloc Try.zeroValue81 rfl rfl rfl rfl rfl ?_
        intro b6
        refine RL.call (fQ) Try.call27 rfl rfl rfl rfl rfl (by repeat (first | exact Pick.nil | apply Pick.take | apply Pick.leave)) (Lend.ownI mQ3 .nil) (.inl rfl) ?_
        rintro _ _ _ ⟨o2, c2, rfl, -, rfl, rfl⟩
        refine RL.call (join_any P1 Q1 o1 o2 c1 c2 P1.L.length Q1.L.length h1 h2 h3 h4 rfl rfl (by omega) (by omega)) Try.call30 rfl rfl rfl rfl rfl (by repeat (first | exact Pick.nil | apply Pick.take | apply Pick.leave)) (Lend.own (by repeat (first | exact List.Mem.head _ | apply List.Mem.tail)) (Lend.own (by repeat (first | exact List.Mem.head _ | apply List.Mem.tail)) .nil)) (.inl rfl) ?_
        rintro _ _ _ ⟨o3, c3, rfl, rfl, rfl⟩
        refine RL.p rfl (RL.p rfl (RL.p rfl (RL.storeW Try.sizeOf81 rfl rfl rfl rfl rfl rfl rfl (ones_rep _ rfl) (by repeat (first | exact Upd.here | apply Upd.there)) (rep_len lV.1 lV.2) rfl ?_)))
        refine RL.p rfl (RL.nil ?_)
        exact NQ.midG (b6, o3, c3) trivial (.cons rfl (.cons rfl (.cons rfl (.cons rfl (.cons rfl (.cons rfl (.cons rfl (.cons rfl .nil)))))))) (fun w h => h.rea (fun _ h => h) (by repeat (first | exact Rea.nil | (apply Rea.cons; (solve | (repeat (first | exact Del.here | apply Del.there)))))))
    ·
      refine RL.alloc Try.zeroValue81 rfl rfl rfl rfl rfl ?_
      intro b6
      refine RL.call (fP) Try.call27 rfl rfl rfl rfl rfl (by repeat (first | exact Pick.nil | apply Pick.take | apply Pick.leave)) (Lend.ownI mP3 .nil) (.inl rfl) ?_
      rintro _ _ _ ⟨o1, c1, rfl, -, rfl, rfl⟩
      refine RL.call (fQ) Try.call27 rfl rfl rfl rfl rfl (by repeat (first | exact Pick.nil | apply Pick.take | apply Pick.leave)) (Lend.ownI mQ3 .nil) (.inl rfl) ?_
      rintro _ _ _ ⟨o2, c2, rfl, -, rfl, rfl⟩
      refine RL.call (join_any P1 Q1 o1 o2 c1 c2 P1.L.length Q1.L.length h1 h2 h3 h4 rfl rfl (by omega) (by omega)) Try.call30 rfl rfl rfl rfl rfl (by repeat (first | exact Pick.nil | apply Pick.take | apply Pick.leave)) (Lend.own (by repeat (first | exact List.Mem.head _ | apply List.Mem.tail)) (Lend.own (by repeat (first | exact List.Mem.head _ | apply List.Mem.tail)) .nil)) (.inl rfl) ?_
      rintro _ _ _ ⟨o3, c3, rfl, rfl, rfl⟩
      refine RL.p rfl (RL.p rfl (RL.p rfl (RL.storeW Try.sizeOf81 rfl rfl rfl rfl rfl rfl rfl (ones_rep _ rfl) (by repeat (first | exact Upd.here | apply Upd.there)) (rep_len lV.1 lV.2) rfl ?_)))
      refine RL.p rfl (RL.nil ?_)
      exact NQ.midG (b6, o3, c3) trivial (.cons rfl (.cons rfl (.cons rfl (.cons rfl (.cons rfl (.cons rfl (.cons rfl (.cons rfl .nil)))))))) (fun w h => h.rea (fun _ h => h) (by repeat (first | exact Rea.nil | (apply Rea.cons; (solve | (repeat (first | exact Del.here | apply Del.there)))))))
  rintro ⟨bv, o3, c3⟩ -
  dsimp only
  refine CW.seq (CW.freezeAll rfl ?_)
  refine CW.genI (fun J4 hJ4 => ?_)
  have mV : own o3 c3 83 4 (joinV P1 Q1).L.length (entsV (joinV P1 Q1).L) ∈ J4 := hJ4 _ (by simp)
  have mv1 : cel bv ((joinV P1 Q1).cells (slO o3 (joinV P1 Q1).L.length c3)) 81 ∈ J4 := hJ4 _ (by simp)
  have v1 : RdsN J4 ⟨bv, 0, none⟩ 66 ((joinV P1 Q1).cells (slO o3 (joinV P1 Q1).L.length c3)) := ⟨fun _ => Rds.allI (hJ4 (cel bv ((joinV P1 Q1).cells (slO o3 (joinV P1 Q1).L.length c3)) 81) (by simp)), rep_len lV.1 lV.2⟩
  have hJ34 : ∀ y ∈ J3, y ∈ J4 := fun y hy => hJ4 y (by simp [hy])
  clear hJ4 w1 w2
  have w1 : RdsN J4 ⟨b1, 0, none⟩ 66 (P1.cells (slO op P1.L.length cp)) := ⟨fun _ => Rds.allI (hJ34 _ (hJ23 _ m1)), rep_len h1 h2⟩
  have w2 : RdsN J4 ⟨b2, 0, none⟩ 66 (Q1.cells (slO oq Q1.L.length cq)) := ⟨fun _ => Rds.allI (hJ34 _ (hJ23 _ m2)), rep_len h3 h4⟩
  have mP4 := hJ34 _ mP3
  have mQ4 := hJ34 _ mQ3
  refine CW.cutG (γ := Nat × Option Nat × Nat) (fun _ => True) (fun g => [(4, .pointer (some ⟨b1, 0, none⟩)), (11, .pointer (some ⟨b4, 0, none⟩)), (12, .int .i64 (nxE x)), (13, .pointer (some ⟨b5, 0, none⟩)), (14, .int .i64 (nxE x)), (15, .pointer (some ⟨bv, 0, none⟩)), (16, .int .i64 (joinE' P1 Q1)), (17, .pointer (some ⟨g.1, 0, none⟩)), (18, .int .i64 (joinE' P1 Q1))]) (fun _ => J4) (fun g => [own g.2.1 g.2.2 87 4 (joinV P1 Q1).L.length (entsV (joinV P1 Q1).L), cel g.1 ((joinV P1 Q1).cells (slO g.2.1 (joinV P1 Q1).L.length g.2.2)) 93]) ?_ ?_
  ·
    refine CW.regionD (.cons 0 (.cons 2 (.fork [1, 8] (fun k => (bif Nat.beq k 1 then (.fork [3, 8] (fun k => (bif Nat.beq k 3 then (.fork [4, 8] (fun k => (bif Nat.beq k 4 then (Sq.of [5, 6, 7, 8, 9, 10]) else (Sq.of [4, 5, 6, 7, 9, 10])))) else (Sq.of [3, 4, 5, 6, 7, 9, 10])))) else (Sq.of [1, 3, 4, 5, 6, 7, 9, 10])))))) [1, 3, 4, 8, 9] [9] [0, 2, 5, 6, 7, 10] mixed (by kernel_rfl) ?_
    refine RL.loadSTq Try.isAgg81 Try.sizeOf81 rfl rfl rfl rfl ?_
    refine RL.loadSTq Try.isAgg81 Try.sizeOf81 rfl rfl rfl rfl ?_
    refine RL.fork ⟨?_, ?_, trivial⟩
    ·
      refine RL.call (gP) Try.call32 rfl rfl rfl rfl rfl (by repeat (first | exact Pick.nil | apply Pick.take | apply Pick.leave)) (Lend.ownI mP4 .nil) (.inl rfl) ?_
      rintro _ _ _ ⟨o4, c4, rfl, -, rfl, rfl⟩
      refine RL.fork ⟨?_, ?_, trivial⟩
      ·
        refine RL.call (gQ) Try.call32 rfl rfl rfl rfl rfl (by repeat (first | exact Pick.nil | apply Pick.take | apply Pick.leave)) (Lend.ownI mQ4 .nil) (.inl rfl) ?_
        rintro _ _ _ ⟨o5, c5, rfl, -, rfl, rfl⟩
        refine RL.fork ⟨?_, ?_, trivial⟩
        ·
          refine RL.call (rjoin_any P1 Q1 o4 o5 c4 c5 P1.L.length Q1.L.length h1 h2 h3 h4 rfl rfl (by omega) (by omega)) Try.call31 rfl rfl rfl rfl rfl (by repeat (first | exact Pick.nil | apply Pick.take | apply Pick.leave)) (Lend.own (by repeat (first | exact List.Mem.head _ | apply List.Mem.tail)) (Lend.own (by repeat (first | exact List.Mem.head _ | apply List.Mem.tail)) .nil)) (.inl rfl) ?_
          rintro _ _ _ ⟨o6, c6, rfl, rfl, rfl⟩
          refine RL.p rfl (RL.p rfl (RL.p rfl (RL.alloc Try.zeroValue93 rfl rfl rfl rfl rfl ?_)))
          intro b6
          refine RL.storeW Try.sizeOf93 rfl rfl rfl rfl rfl rfl rfl (ones_rep _ rfl) (by repeat (first | exact Upd.here | apply Upd.there)) (rep_len lV.1 lV.2) rfl ?_
          refine RL.p rfl (RL.nil ?_)
          exact NQ.midG (b6, o6, c6) trivial (.cons rfl (.cons rfl (.cons rfl (.cons rfl (.cons rfl (.cons rfl (.cons rfl (.cons rfl (.cons rfl .nil))))))))) (fun w h => h.rea (fun _ h => h) (by repeat (first | exact Rea.nil | (apply Rea.cons; (solve | (repeat (first | exact Del.here | apply Del.there)))))))
        ·
          refine RL.alloc Try.zeroValue93 rfl rfl rfl rfl rfl ?_
          intro b6
          refine RL.call (rjoin_any P1 Q1 o4 o5 c4 c5 P1.L.length Q1.L.length h1 h2 h3 h4 rfl rfl (by omega) (by omega)) Try.call31 rfl rfl rfl rfl rfl (by repeat (first | exact Pick.nil | apply Pick.take | apply Pick.leave)) (Lend.own (by repeat (first | exact List.Mem.head _ | apply List.Mem.tail)) (Lend.own (by repeat (first | exact List.Mem.head _ | apply List.Mem.tail)) .nil)) (.inl rfl) ?_
          rintro _ _ _ ⟨o6, c6, rfl, rfl, rfl⟩
          refine RL.p rfl (RL.p rfl (RL.p rfl (RL.storeW Try.sizeOf93 rfl rfl rfl rfl rfl rfl rfl (ones_rep _ rfl) (by repeat (first | exact Upd.here | apply Upd.there)) (rep_len lV.1 lV.2) rfl ?_)))
          refine RL.p rfl (RL.nil ?_)
          exact NQ.midG (b6, o6, c6) trivial (.cons rfl (.cons rfl (.cons rfl (.cons rfl (.cons rfl (.cons rfl (.cons rfl (.cons rfl (.cons rfl .nil))))))))) (fun w h => h.rea (fun _ h => h) (by repeat (first | exact Rea.nil | (apply Rea.cons; (solve | (repeat (first | exact Del.here | apply Del.there)))))))
      ·
        refine RL.alloc Try.zeroValue93 rfl rfl rfl rfl rfl ?_
        intro b6
        refine RL.call (gQ) Try.call32 rfl rfl rfl rfl rfl (by repeat (first | exact Pick.nil | apply Pick.take | apply Pick.leave)) (Lend.ownI mQ4 .nil) (.inl rfl) ?_
        rintro _ _ _ ⟨o5, c5, rfl, -, rfl, rfl⟩
        refine RL.call (rjoin_any P1 Q1 o4 o5 c4 c5 P1.L.length Q1.L.length h1 h2 h3 h4 rfl rfl (by omega) (by omega)) Try.call31 rfl rfl rfl rfl rfl (by repeat (first | exact Pick.nil | apply Pick.take | apply Pick.leave)) (Lend.own (by repeat (first | exact List.Mem.head _ | apply List.Mem.tail)) (Lend.own (by repeat (first | exact List.Mem.head _ | apply List.Mem.tail)) .nil)) (.inl rfl) ?_
        rintro _ _ _ ⟨o6, c6, rfl, rfl, rfl⟩
        refine RL.p rfl (RL.p rfl (RL.p rfl (RL.storeW Try.sizeOf93 rfl rfl rfl rfl rfl rfl rfl (ones_rep _ rfl) (by repeat (first | exact Upd.here | apply Upd.there)) (rep_len lV.1 lV.2) rfl ?_)))
        refine RL.p rfl (RL.nil ?_)
        exact NQ.midG (b6, o6, c6) trivial (.cons rfl (.cons rfl (.cons rfl (.cons rfl (.cons rfl (.cons rfl (.cons rfl (.cons rfl (.cons rfl .nil))))))))) (fun w h => h.rea (fun _ h => h) (by repeat (first | exact Rea.nil | (apply Rea.cons; (solve | (repeat (first | exact Del.here | apply Del.there)))))))
    ·
      refine RL.alloc Try.zeroValue93 rfl rfl rfl rfl rfl ?_
      intro b6
      refine RL.call (gP) Try.call32 rfl rfl rfl rfl rfl (by repeat (first | exact Pick.nil | apply Pick.take | apply Pick.leave)) (Lend.ownI mP4 .nil) (.inl rfl) ?_
      rintro _ _ _ ⟨o4, c4, rfl, -, rfl, rfl⟩
      refine RL.call (gQ) Try.call32 rfl rfl rfl rfl rfl (by repeat (first | exact Pick.nil | apply Pick.take | apply Pick.leave)) (Lend.ownI mQ4 .nil) (.inl rfl) ?_
      rintro _ _ _ ⟨o5, c5, rfl, -, rfl, rfl⟩
      refine RL.call (rjoin_any P1 Q1 o4 o5 c4 c5 P1.L.length Q1.L.length h1 h2 h3 h4 rfl rfl (by omega) (by omega)) Try.call31 rfl rfl rfl rfl rfl (by repeat (first | exact Pick.nil | apply Pick.take | apply Pick.leave)) (Lend.own (by repeat (first | exact List.Mem.head _ | apply List.Mem.tail)) (Lend.own (by repeat (first | exact List.Mem.head _ | apply List.Mem.tail)) .nil)) (.inl rfl) ?_
      rintro _ _ _ ⟨o6, c6, rfl, rfl, rfl⟩
      refine RL.p rfl (RL.p rfl (RL.p rfl (RL.storeW Try.sizeOf93 rfl rfl rfl rfl rfl rfl rfl (ones_rep _ rfl) (by repeat (first | exact Upd.here | apply Upd.there)) (rep_len lV.1 lV.2) rfl ?_)))
      refine RL.p rfl (RL.nil ?_)
      exact NQ.midG (b6, o6, c6) trivial (.cons rfl (.cons rfl (.cons rfl (.cons rfl (.cons rfl (.cons rfl (.cons rfl (.cons rfl (.cons rfl .nil))))))))) (fun w h => h.rea (fun _ h => h) (by repeat (first | exact Rea.nil | (apply Rea.cons; (solve | (repeat (first | exact Del.here | apply Del.there)))))))
  rintro ⟨bw, o6, c6⟩ -
  dsimp only
  refine CW.seq (CW.freezeAll rfl ?_)
  refine CW.genI (fun J5 hJ5 => ?_)
  have mW : own o6 c6 87 4 (joinV P1 Q1).L.length (entsV (joinV P1 Q1).L) ∈ J5 := hJ5 _ (by simp)
  have mv2 : cel bw ((joinV P1 Q1).cells (slO o6 (joinV P1 Q1).L.length c6)) 93 ∈ J5 := hJ5 _ (by simp)
  have v2 : RdsN J5 ⟨bw, 0, none⟩ 66 ((joinV P1 Q1).cells (slO o6 (joinV P1 Q1).L.length c6)) := ⟨fun _ => Rds.allI (hJ5 (cel bw ((joinV P1 Q1).cells (slO o6 (joinV P1 Q1).L.length c6)) 93) (by simp)), rep_len lV.1 lV.2⟩
  have hJ45 : ∀ y ∈ J4, y ∈ J5 := fun y hy => hJ5 y (by simp [hy])
  clear hJ5 w1
  have w1 : RdsN J5 ⟨b1, 0, none⟩ 66 (P1.cells (slO op P1.L.length cp)) := ⟨fun _ => Rds.allI (hJ45 _ (hJ34 _ (hJ23 _ m1))), rep_len h1 h2⟩
  have mP5 := hJ45 _ mP4
  refine CW.regionD (Sq.of [0, 3, 1, 2, 4, 5, 6, 7]) [1, 2, 4, 5] [] [0, 3, 6, 7] mixed (by kernel_rfl) ?_
  refine RL.loadSTq Try.isAgg81 Try.sizeOf81 rfl rfl rfl rfl ?_
  refine RL.loadSTq Try.isAgg81 Try.sizeOf81 rfl rfl rfl rfl ?_
  refine RL.call (fP) Try.call27 rfl rfl rfl rfl rfl (by repeat (first | exact Pick.nil | apply Pick.take | apply Pick.leave)) (Lend.ownI mP5 .nil) (.inl rfl) ?_
  rintro _ _ _ ⟨o7, c7, rfl, -, rfl, rfl⟩
  refine RL.call (ttally_any P1 o7 c7 P1.L.length h1 h2 rfl (by omega)) Try.call33 rfl rfl rfl rfl rfl (by repeat (first | exact Pick.nil | apply Pick.take | apply Pick.leave)) (Lend.own (by repeat (first | exact List.Mem.head _ | apply List.Mem.tail)) .nil) (.inl rfl) ?_
  rintro _ _ _ ⟨o8, c8, rfl, rfl, rfl⟩
  refine RL.call (gP) Try.call32 rfl rfl rfl rfl rfl (by repeat (first | exact Pick.nil | apply Pick.take | apply Pick.leave)) (Lend.ownI mP5 .nil) (.inl rfl) ?_
  rintro _ _ _ ⟨o9, c9, rfl, -, rfl, rfl⟩
  refine RL.call (rtally_any P1 o9 c9 P1.L.length h1 h2 rfl (by omega)) Try.call34 rfl rfl rfl rfl rfl (by repeat (first | exact Pick.nil | apply Pick.take | apply Pick.leave)) (Lend.own (by repeat (first | exact List.Mem.head _ | apply List.Mem.tail)) .nil) (.inl rfl) ?_
  rintro _ _ _ ⟨o10, c10, rfl, rfl, rfl⟩
  refine RL.p rfl (RL.p rfl (RL.nil (NQ.seq (CW.ok [4, 11, 12, 13, 14, 15, 16, 17, 18, 19, 20] rfl (CW.seq (CW.seq (CW.freezeAll rfl ?_)))))))
  refine CW.genI (fun J6 hJ6 => ?_)
  have mA : own o8 c8 105 4 (tlR P1.L).length ((tlR P1.L).flatMap lnc) ∈ J6 := hJ6 _ (by simp)
  have mB : own o10 c10 106 4 (tlR P1.L).length ((tlR P1.L).flatMap lnc) ∈ J6 := hJ6 _ (by simp)
  have hJ56 : ∀ y ∈ J5, y ∈ J6 := fun y hy => hJ6 y (by simp [hy])
  clear hJ6 w1
  have w1 : RdsN J6 ⟨b1, 0, none⟩ 66 (P1.cells (slO op P1.L.length cp)) := ⟨fun _ => Rds.allI (hJ56 _ (hJ45 _ (hJ34 _ (hJ23 _ m1)))), rep_len h1 h2⟩
  have e1 : RdsN J6 ⟨b4, 0, none⟩ 32 (bytes (nxD P1.fr x)) := ⟨fun _ => Rds.allI (hJ56 _ (hJ45 _ (hJ34 _ md1))), lN⟩
  have e2 : RdsN J6 ⟨b5, 0, none⟩ 32 (bytes (nxD P1.fr x)) := ⟨fun _ => Rds.allI (hJ56 _ (hJ45 _ (hJ34 _ md2))), lN⟩
  have e3' : RdsN J6 ⟨bv, 0, none⟩ 66 ((joinV P1 Q1).cells (slO o3 (joinV P1 Q1).L.length c3)) := ⟨fun _ => Rds.allI (hJ56 _ (hJ45 _ mv1)), rep_len lV.1 lV.2⟩
  have e4 : RdsN J6 ⟨bw, 0, none⟩ 66 ((joinV P1 Q1).cells (slO o6 (joinV P1 Q1).L.length c6)) := ⟨fun _ => Rds.allI (hJ56 _ mv2), rep_len lV.1 lV.2⟩
  have mP6 := hJ56 _ mP5
  have mV6 := hJ56 _ (hJ45 _ mV)
  have mW6 := hJ56 _ mW
  have hol := tlR_len P1.L
  generalize tlR P1.L = o at *
  refine CW.regionD (Sq.of [0, 1, 2, 3, 4, 5, 6, 7, 8, 9, 10, 11, 12, 13, 14, 15, 16, 17, 18, 19, 20, 23, 21, 22, 24, 25, 26, 27, 28, 29, 30, 31, 32, 33, 34]) [21, 24] [] [0, 1, 2, 3, 4, 5, 6, 7, 8, 9, 10, 11, 12, 13, 14, 15, 16, 17, 18, 19, 20, 23, 26, 27, 28, 29, 30, 31, 32, 33, 34] mixed (by kernel_rfl) ?_
  refine RL.loadSTq Try.isAgg78 Try.sizeOf78 rfl rfl rfl rfl ?_
  refine RL.loadSTq Try.isAgg78 Try.sizeOf78 rfl rfl rfl rfl ?_
  refine RL.cmp rfl rfl rfl rfl rfl (dig_ne _ _ hN hN _ _) (RL.p rfl (RL.cast (d := 173) (v' := .bool false) rfl ((by simp)) ?_))
  refine RL.p rfl (RL.p rfl (RL.p rfl (RL.p rfl (RL.p rfl (RL.cast (d := 178) (v' := .bool false) rfl ((by simp)) ?_)))))
  refine RL.loadSTq Try.isAgg81 Try.sizeOf81 rfl rfl rfl rfl ?_
  refine RL.loadSTq Try.isAgg93 Try.sizeOf93 rfl rfl rfl rfl ?_
  refine RL.callvT (same_refl (joinV P1 Q1) o3 o6 c3 c6 (joinV P1 Q1).L.length lV.1 lV.2 rfl (by omega)) Try.call35 rfl rfl rfl rfl (Lend.ownI mV6 (Lend.ownI mW6 .nil)) ?_
  refine RL.p rfl (RL.p rfl (RL.p rfl (RL.cast (d := 184) (v' := .bool false) rfl (rfl) ?_)))
  refine RL.p rfl (RL.p rfl (RL.p rfl (RL.p rfl (RL.p rfl (RL.cast (d := 189) (v' := .bool false) rfl ((by simp)) ?_)))))
  refine RL.loadSTq Try.isAgg81 Try.sizeOf81 rfl rfl rfl rfl ?_
  refine RL.loadSTq Try.isAgg81 Try.sizeOf81 rfl rfl rfl rfl ?_
  refine RL.call (fP) Try.call27 rfl rfl rfl rfl rfl (by repeat (first | exact Pick.nil | apply Pick.take | apply Pick.leave)) (Lend.ownI mP6 .nil) (.inl rfl) ?_
  rintro _ _ _ ⟨o11, c11, rfl, -, rfl, rfl⟩
  refine RL.callv (tholds_any P1 o11 c11 P1.L.length h1 h2 rfl (by omega)) Try.call36 rfl rfl rfl rfl (Lend.own (by repeat (first | exact List.Mem.head _ | apply List.Mem.tail)) .nil) ?_
  refine RL.call (gP) Try.call32 rfl rfl rfl rfl rfl (by repeat (first | exact Pick.nil | apply Pick.take | apply Pick.leave)) (Lend.ownI mP6 .nil) (.inl rfl) ?_
  rintro _ _ _ ⟨o12, c12, rfl, -, rfl, rfl⟩
  refine RL.callv (rholds_any P1 o12 c12 P1.L.length h1 h2 rfl (by omega)) Try.call37 rfl rfl rfl rfl (Lend.own (by repeat (first | exact List.Mem.head _ | apply List.Mem.tail)) .nil) ?_
  refine RL.p rfl (RL.p rfl (RL.p rfl (RL.cast (d := 198) (v' := .bool false) rfl ((by simp)) ?_)))
  refine RL.p rfl (RL.lenS Try.runUnderlying97 rfl rfl rfl rfl (RL.p rfl (RL.lenS Try.runUnderlying99 rfl rfl rfl rfl (RL.p rfl (RL.p rfl (RL.nil (NQ.seq (CW.ok [19, 20, 204] rfl (CW.condF rfl ((by simp)) ?_)))))))))
  refine CW.skip (NQ.seq (CW.seq (CW.seq (CW.rg (RL.p rfl (RL.nil (NQ.seq (CW.block (CW.freezeAll rfl ?_)))))))))
  refine CW.genI (fun J7 hJ7 => ?_)
  have mA7 : own o8 c8 105 4 o.length (o.flatMap lnc) ∈ J7 := hJ7 _ (by simp [mA])
  have mB7 : own o10 c10 106 4 o.length (o.flatMap lnc) ∈ J7 := hJ7 _ (by simp [mB])
  clear hJ7
  refine CW.fact (p := (o8 = none → o.length = 0) ∧ (o10 = none → o.length = 0)) (fun w hC => ⟨fun e => by subst e; exact own_none (hC.s.i _ mA7), fun e => by subst e; exact own_none (hC.s.i _ mB7)⟩) (fun hno => ?_)
  refine CW.loop (γ := Nat) (fun k => k ≤ o.length) (fun k => [(19, slO o8 o.length c8), (20, slO o10 o.length c10), (21, .int .i64 (k : Int))]) (fun _ => J7) (fun _ => []) (fun k => o.length - k) 0 (Nat.zero_le _) (.cons rfl (.cons rfl (.cons rfl .nil))) (fun w h => h.rea (fun _ h => h) (by repeat (first | exact Rea.nil | (apply Rea.cons; (solve | (repeat (first | exact Del.here | apply Del.there))))))) ?_
  intro k hk
  refine CW.seq (CW.seq (CW.rg (RL.p rfl (RL.p rfl (RL.lenS Try.runUnderlying97 rfl rfl rfl rfl (RL.p rfl (RL.nil (NQ.seq ?_))))))))
  refine CW.cond rfl (fun hlt => ?_) (fun hlt => ?_)
  ·
    have hlt : k < o.length := by simp at hlt; omega
    obtain ⟨qa, rfl⟩ : ∃ q, o8 = some q := by
      cases o8 with
      | none => exact absurd (hno.1 rfl) (by omega)
      | some q => exact ⟨q, rfl⟩
    obtain ⟨qb, rfl⟩ : ∃ q, o10 = some q := by
      cases o10 with
      | none => exact absurd (hno.2 rfl) (by omega)
      | some q => exact ⟨q, rfl⟩
    have hy := List.getElem?_eq_getElem hlt
    generalize o[k] = y at hy
    have ra : ∀ H, Rds J7 H ⟨qa, 0 + k * 4, none⟩ (lnc y) := fun H => own_rdsI mA7 hy (fun _ _ => rfl)
    have rb : ∀ H, Rds J7 H ⟨qb, 0 + k * 4, none⟩ (lnc y) := fun H => own_rdsI mB7 hy (fun _ _ => rfl)
    have a0 : RdI J7 ⟨qa, 0 + k * 4 + 0, none⟩ (.int .i64 y.1.1) := ⟨fun H => by have := (ra H).rd (j := 0) (v := .int .i64 y.1.1) rfl; rwa [add_none] at this⟩
    have a1 : RdI J7 ⟨qa, 0 + k * 4 + 1, none⟩ (.int .i64 y.1.2.1) := ⟨fun H => by have := (ra H).rd (j := 1) (v := .int .i64 y.1.2.1) rfl; rwa [add_none] at this⟩
    have a2 : RdI J7 ⟨qa, 0 + k * 4 + 2, none⟩ (.int .i64 y.1.2.2) := ⟨fun H => by have := (ra H).rd (j := 2) (v := .int .i64 y.1.2.2) rfl; rwa [add_none] at this⟩
    have a3 : RdI J7 ⟨qa, 0 + k * 4 + 3, none⟩ (.int .i64 y.2) := ⟨fun H => by have := (ra H).rd (j := 3) (v := .int .i64 y.2) rfl; rwa [add_none] at this⟩
    have c0' : RdI J7 ⟨qb, 0 + k * 4 + 0, none⟩ (.int .i64 y.1.1) := ⟨fun H => by have := (rb H).rd (j := 0) (v := .int .i64 y.1.1) rfl; rwa [add_none] at this⟩
    have c1' : RdI J7 ⟨qb, 0 + k * 4 + 1, none⟩ (.int .i64 y.1.2.1) := ⟨fun H => by have := (rb H).rd (j := 1) (v := .int .i64 y.1.2.1) rfl; rwa [add_none] at this⟩
    have c2' : RdI J7 ⟨qb, 0 + k * 4 + 2, none⟩ (.int .i64 y.1.2.2) := ⟨fun H => by have := (rb H).rd (j := 2) (v := .int .i64 y.1.2.2) rfl; rwa [add_none] at this⟩
    have c3' : RdI J7 ⟨qb, 0 + k * 4 + 3, none⟩ (.int .i64 y.2) := ⟨fun H => by have := (rb H).rd (j := 3) (v := .int .i64 y.2) rfl; rwa [add_none] at this⟩
    refine CW.skip (NQ.seq (CW.seq (CW.block (CW.seq (CW.regionD (Sq.of [0, 1, 2, 3, 4, 5, 6, 7, 8, 9, 10, 11, 12, 13, 14, 15, 16, 17, 18, 19, 20, 21, 22, 23, 24, 25, 26, 27, 28, 29, 30, 31, 32, 33, 34, 35, 36, 37, 38, 39, 40, 41, 42, 43, 44, 45, 46, 47, 48, 49]) [] [] [0, 1, 2, 3, 5, 6, 7, 8, 10, 11, 12, 13, 14, 15, 17, 18, 19, 20, 22, 23, 24, 25, 26, 27, 28, 30, 31, 32, 33, 35, 36, 37, 38, 39, 40, 41, 43, 44, 45, 46, 48, 49] mixed (by kernel_rfl) ?_)))))
    refine RL.p rfl (RL.p rfl (RL.idxAt (j := k) Try.runUnderlying97 Try.sizeOf105 rfl rfl rfl rfl rfl rfl (hlt) (RL.fieldAddr fa_105_0 rfl rfl rfl rfl (RL.loadq Try.isAgg3 rfl rfl rfl rfl ?_))))
    refine RL.p rfl (RL.p rfl (RL.idxAt (j := k) Try.runUnderlying99 Try.sizeOf106 rfl rfl rfl rfl rfl rfl (hlt) (RL.fieldAddr fa_106_0 rfl rfl rfl rfl (RL.loadq Try.isAgg3 rfl rfl rfl rfl ?_))))
    refine RL.p rfl (RL.p rfl ?_)
    apply RL.orB (d := 222) (dp := 234) (l' := (Sq.of [24, 25, 26, 27, 28, 29, 30, 31, 32, 33, 34, 35, 36, 37, 38, 39, 40, 41, 42, 43, 44, 45, 46, 47, 48, 49])) rfl (sK [19, 20, 21] rfl)
    ·
      intro hb12 K12
      refine RL.p rfl (RL.p rfl (RL.idxAt (j := k) Try.runUnderlying97 Try.sizeOf105 rfl rfl rfl rfl rfl rfl (hlt) (RL.fieldAddr fa_105_1 rfl rfl rfl rfl (RL.loadq Try.isAgg3 rfl rfl rfl rfl ?_))))
      refine RL.p rfl (RL.p rfl (RL.idxAt (j := k) Try.runUnderlying99 Try.sizeOf106 rfl rfl rfl rfl rfl rfl (hlt) (RL.fieldAddr fa_106_1 rfl rfl rfl rfl (RL.loadq Try.isAgg3 rfl rfl rfl rfl ?_))))
      refine RL.p rfl (RL.p rfl ?_)
      exact K12 _ (.cons rfl (sK [19, 20, 21] rfl))
    ·
      intro hb12 K12
      refine RL.p rfl (RL.p rfl (RL.p rfl (RL.p rfl (RL.p rfl (RL.p rfl (RL.p rfl (RL.p rfl (RL.p rfl (RL.p rfl (RL.p rfl (RL.p rfl ?_)))))))))))
      exact K12 _ (.cons rfl (sK [19, 20, 21] rfl))
    refine RL.p rfl ?_
    apply RL.orB (d := 235) (dp := 247) (l' := (Sq.of [37, 38, 39, 40, 41, 42, 43, 44, 45, 46, 47, 48, 49])) rfl (sK [19, 20, 21] rfl)
    ·
      intro hb25 K25
      refine RL.p rfl (RL.p rfl (RL.idxAt (j := k) Try.runUnderlying97 Try.sizeOf105 rfl rfl rfl rfl rfl rfl (hlt) (RL.fieldAddr fa_105_2 rfl rfl rfl rfl (RL.loadq Try.isAgg3 rfl rfl rfl rfl ?_))))
      refine RL.p rfl (RL.p rfl (RL.idxAt (j := k) Try.runUnderlying99 Try.sizeOf106 rfl rfl rfl rfl rfl rfl (hlt) (RL.fieldAddr fa_106_2 rfl rfl rfl rfl (RL.loadq Try.isAgg3 rfl rfl rfl rfl ?_))))
      refine RL.p rfl (RL.p rfl ?_)
      exact K25 _ (.cons rfl (sK [19, 20, 21] rfl))
    ·
      intro hb25 K25
      refine RL.p rfl (RL.p rfl (RL.p rfl (RL.p rfl (RL.p rfl (RL.p rfl (RL.p rfl (RL.p rfl (RL.p rfl (RL.p rfl (RL.p rfl (RL.p rfl ?_)))))))))))
      exact K25 _ (.cons rfl (sK [19, 20, 21] rfl))
    refine RL.p rfl ?_
    apply RL.orB (d := 248) (dp := 260) (l' := (Sq.of [])) rfl (sK [19, 20, 21] rfl)
    ·
      intro hb38 K38
      refine RL.p rfl (RL.p rfl (RL.idxAt (j := k) Try.runUnderlying97 Try.sizeOf105 rfl rfl rfl rfl rfl rfl (hlt) (RL.fieldAddr fa_105_3 rfl rfl rfl rfl (RL.loadq Try.isAgg3 rfl rfl rfl rfl ?_))))
      refine RL.p rfl (RL.p rfl (RL.idxAt (j := k) Try.runUnderlying99 Try.sizeOf106 rfl rfl rfl rfl rfl rfl (hlt) (RL.fieldAddr fa_106_3 rfl rfl rfl rfl (RL.loadq Try.isAgg3 rfl rfl rfl rfl ?_))))
      refine RL.p rfl (RL.p rfl ?_)
      exact K38 _ (.cons rfl (sK [19, 20, 21] rfl))
    ·
      intro hb38 K38
      refine RL.p rfl (RL.p rfl (RL.p rfl (RL.p rfl (RL.p rfl (RL.p rfl (RL.p rfl (RL.p rfl (RL.p rfl (RL.p rfl (RL.p rfl (RL.p rfl ?_)))))))))))
      exact K38 _ (.cons rfl (sK [19, 20, 21] rfl))
    refine RL.nil (NQ.seq (CW.condF rfl ((by simp)) ?_))
    refine CW.skip (NQ.block (NQ.seq (CW.rg (RL.p rfl (RL.bx rfl (wrapV_i64 (by omega) (by omega)) ?_)))))
    refine RL.p rfl (RL.nil ?_)
    refine NQ.round (g := k) (k + 1) hlt (by show o.length - (k + 1) < o.length - k; omega) (.cons rfl (.cons rfl (.cons rfl .nil))) (fun w h => h)
  ·
    refine CW.exit (XQ.seq (XQ.seq (XQ.hit (NQ.seq (CW.ok [] rfl (CW.seq (CW.rg (RL.callvq (works36) Try.call38 rfl rfl rfl rfl ?_))))))))
    refine RL.p rfl (RL.nil (NQ.seq (CW.ret ?_)))
    exact RQ.post (res1 rfl rfl) (Split.none _) ⟨rfl, rfl, rfl⟩
theorem traceTells_call (W : World) (p q : RepA) (x : Ent) (rt : Bool) (hp : rRep.ok p) (hq : rRep.ok q) (_ : rEnt.ok x) (_ : rBool.ok rt) (tp : ∀ y ∈ rRep.its p, y.A W) (tq : ∀ y ∈ rRep.its q, y.A W) (_ : ∀ y ∈ rEnt.its x, y.A W) (_ : ∀ y ∈ rBool.its rt, y.A W) :
    Calls Try.prog 5 #[rRep.val p, rRep.val q, rEnt.val x, rBool.val rt] W (fun e w' => e = .returned (.bool true) ∧ RowKit.Below W.heap.size W w') := by
  have h1 : (sls p.p 4 p.r.L.length (entsV p.r.L)).A W := tp _ (List.Mem.head _)
  have h2 : (sls q.p 4 q.r.L.length (entsV q.r.L)).A W := tq _ (List.Mem.head _)
  exact (ttells p q hp hq x rt).lawI (fun y hy => by
    rcases List.mem_cons.1 hy with rfl | hy
    · exact h1
    · rw [List.mem_singleton] at hy; subst hy; exact h2)
end Go.Proofs.Ytbdnebedmdoehaa
