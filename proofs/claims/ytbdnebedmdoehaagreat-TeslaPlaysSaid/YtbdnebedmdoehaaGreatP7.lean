import Derived.Test.YtbdnebedmdoehaaGreatP6
namespace Go.Proofs.YtbdnebedmdoehaaGreat
open Go.PK
/-! ### The reference's buffer -/
abbrev rbufI (y : Nat) (ob : Option Nat) (n cp : Nat) : It := cel y [slO ob n cp] 111
abbrev itmI (ob : Option Nat) (cp n : Nat) (R : Bq) : It := own ob cp 120 23 n (R.flatMap itc)
abbrev RBI (y : Nat) (R : Bq) (ob : Option Nat) (cp : Nat) : List It := [rbufI y ob R.length cp, itmI ob cp R.length R]
theorem eqs_plq (x0 x1 y0 y1 : Int) (x y : Operand) (w : World) : (do eqGuard .eql 118 x y (.agg #[.int .u32 x0, .int .u8 x1]) (.agg #[.int .u32 y0, .int .u8 y1]); binOp .eql 118 (.agg #[.int .u32 x0, .int .u8 x1]) (.agg #[.int .u32 y0, .int .u8 y1]) : Sem Value).run Tryz.prog w = .ok (.bool (x0 == y0 && x1 == y1)) w := by
  simp [run_eqGuard_agg, run_eql_struct, run_equalIn_struct, Program.fieldsOf, Op.eqFields, Go.part, go_sem]
  by_cases h1 : x0 = y0 <;> by_cases h2 : x1 = y1 <;> simp [h1, h2]
theorem Rds.itF {I H : List It} {b o : Nat} {x : Pq × FrO} (h : Rds I H ⟨b, o, none⟩ (itc x)) : Rds I H ⟨b, o + 2, none⟩ x.2.cells := by
  have := Rds.part (I := I) (H := H) (j := 2) (vs := x.2.cells) h (fun q u hu => by
    rw [show 2 + q = q + 1 + 1 by omega]; exact hu)
  rwa [add_none] at this
theorem Rds.it0 {I H : List It} {b o : Nat} {x : Pq × FrO} (h : Rds I H ⟨b, o, none⟩ (itc x)) : Rd I H ⟨b, o + 0 + 0, none⟩ (.int .u32 x.1.1) := by
  have := h.rd (j := 0) (v := .int .u32 x.1.1) rfl
  rwa [add_none] at this
theorem Rds.itP {I H : List It} {b o : Nat} {x : Pq × FrO} (h : Rds I H ⟨b, o, none⟩ (itc x)) : Rds I H ⟨b, o + 0, none⟩ [.int .u32 x.1.1, .int .u8 x.1.2] := Rds.take2 h
theorem brget_any (y : Nat) (R : Bq) (ob : Option Nat) (cp : Nat) (p : Pq) (hR : ∀ x ∈ R, x.2.Ok) (hl : R.length ≤ 100000) : Spc Tryz.prog 93 #[.pointer (some ⟨y, 0, none⟩), .agg #[.int .u32 p.1, .int .u8 p.2]] (RBI y R ob cp) [] (Is (.tuple #[frV ((lkQ p R).getD fro0), .bool (lkQ p R).isSome])) := by
  have hf : ∀ x ∈ R, (itc x).length = 23 := itc_fm_len hR
  refine Spc.enter Tryz.func93 rfl rfl rfl (fun w0 hw0 => ?_)
  refine CW.seq (CW.region (ef := [0, 1]) (bk := []) (RL.box rfl rfl rfl rfl rfl rfl ?_))
  intro b1
  refine RL.alloc Tryz.zeroValue30 rfl rfl rfl rfl rfl ?_
  intro b2
  refine RL.p rfl (RL.nil (NQ.seq (CW.seq (CW.seq (CW.rg (RL.p rfl (RL.nil (NQ.seq (CW.block ?_)))))))))
  refine CW.fact (p := ob = none → R.length = 0) (fun w hC e => by subst e; exact own_none (hC.s.i (itmI none cp R.length R) (List.Mem.tail _ (List.Mem.head _)))) (fun hob => ?_)
  refine CW.loop (γ := Nat) (fun i => i ≤ R.length ∧ lkQ p (R.drop i) = lkQ p R) (fun i => [(0, .pointer (some ⟨y, 0, none⟩)), (3, .pointer (some ⟨b1, 0, none⟩)), (4, .pointer (some ⟨b2, 0, none⟩)), (6, .int .i64 (i : Int))]) (fun _ => RBI y R ob cp)
    (fun _ => [cel b2 fro0.cells 30, cel b1 [.int .u32 p.1, .int .u8 p.2] 118]) (fun i => R.length - i) 0 ⟨by omega, rfl⟩ (.cons rfl (.cons rfl (.cons rfl (.cons rfl .nil)))) (fun w h => h.rea (fun _ h => h) (by repeat (first | exact Rea.nil | (apply Rea.cons; (solve | (repeat (first | exact Del.here | apply Del.there))))))) ?_
  rintro i ⟨hi, he⟩
  refine CW.seq (CW.seq (CW.rg (RL.p rfl (RL.p rfl (RL.p rfl (RL.fieldAddr fa_111_0 rfl rfl rfl rfl (RL.loadq Tryz.isAgg109 rfl rfl rfl rfl ?_)))))))
  refine RL.lenS Tryz.runUnderlying109 rfl rfl rfl rfl (RL.p rfl (RL.nil (NQ.seq (CW.ok [0, 3, 4, 6, 13] rfl ?_))))
  refine CW.cond rfl (fun hlt => ?_) (fun hlt => ?_)
  ·
    have hlt : i < R.length := by simp at hlt; omega
    obtain ⟨q, rfl⟩ : ∃ q, ob = some q := by
      cases ob with
      | none => exact absurd (hob rfl) (by omega)
      | some q => exact ⟨q, rfl⟩
    have hx := List.getElem?_eq_getElem hlt
    rw [List.drop_eq_getElem_cons hlt] at he
    generalize R[i] = x at hx he
    have rx : ∀ H', Rds (RBI y R (some q) cp) H' ⟨q, 0 + i * 23, none⟩ (itc x) := fun H' => own_rdsI (List.Mem.tail _ (List.Mem.head _)) hx hf
    have hx21 := fro_len (hR x (List.mem_of_getElem? hx))
    refine CW.skip (NQ.seq (CW.seq (CW.block (CW.seq (CW.regionD (Sq.of [0, 1, 2, 3, 4, 5, 6, 7, 8, 9]) [] [] [0, 1, 2, 4, 5, 6, 9] mixed (by kernel_rfl) ?_)))))
    refine RL.p rfl (RL.p rfl (RL.fieldAddr fa_111_0 rfl rfl rfl rfl (RL.loadq Tryz.isAgg109 rfl rfl rfl rfl ?_)))
    refine RL.p rfl (RL.idxAt (j := i) Tryz.runUnderlying109 Tryz.sizeOf120 rfl rfl rfl rfl rfl rfl (hlt) (RL.fieldAddr fa_120_0 rfl rfl rfl rfl (RL.loadN (vs := [_, _]) Tryz.isAgg118 Tryz.sizeOf118 rfl rfl rfl rfl (Rds.itP (rx _)) (RL.loadSq Tryz.isAgg118 Tryz.sizeOf118 rfl rfl rfl rfl ?_))))
    refine RL.cmp rfl rfl rfl rfl rfl (eqs_plq _ _ _ _ _ _) (RL.nil (NQ.seq (CW.ok [0, 3, 4, 6, 25] rfl ?_)))
    refine CW.cond rfl (fun hk => ?_) (fun hk => ?_)
    ·
      refine CW.seq (CW.region (ef := [8]) (bk := [8]) (RL.p rfl (RL.p rfl (RL.fieldAddr fa_111_0 rfl rfl rfl rfl (RL.loadq Tryz.isAgg109 rfl rfl rfl rfl ?_)))))
      refine RL.p rfl (RL.idxAt (j := i) Tryz.runUnderlying109 Tryz.sizeOf120 rfl rfl rfl rfl rfl rfl (hlt) (RL.fieldAddr fa_120_1 rfl rfl rfl rfl (RL.loadA Tryz.isAgg30 Tryz.sizeOf30 rfl rfl rfl rfl (Rds.itF (rx _)) hx21 (RL.storeW Tryz.sizeOf30 rfl rfl rfl rfl rfl rfl rfl (ones_fr _ rfl) (by repeat (first | exact Upd.here | apply Upd.there)) hx21 rfl ?_))))
      refine RL.p rfl (RL.nil (NQ.seq (CW.ok [0, 3, 4, 5, 6] rfl (CW.ret (RQ.block (RQ.seq (RQ.seq (RQ.block (RQ.seq ?_)))))))))
      have hpk : p = x.1 := by
        obtain ⟨⟨a, b⟩, z⟩ := x
        simp at hk
        exact Prod.ext hk.1.symm hk.2.symm
      have hlk : lkQ p R = some x.2 := by
        rw [← he, show x = (x.1, x.2) from rfl, lkQ, if_pos hpk]
      rw [hlk]
      exact RQ.post (resWT rfl rfl rfl Tryz.isAgg30 Tryz.sizeOf30 (List.Mem.head _) hx21) (Split.none _) ⟨rfl, rfl, rfl⟩
    ·
      refine CW.skip (NQ.block (NQ.seq (CW.rg (RL.p rfl (RL.bx rfl (wrapV_i64 (by omega) (by omega)) ?_)))))
      refine RL.p rfl (RL.nil ?_)
      have hpk : ¬ p = x.1 := by
        obtain ⟨⟨a, b⟩, z⟩ := x
        simp at hk
        intro e; rw [e] at hk; simp at hk
      rw [show x = (x.1, x.2) from rfl, lkQ, if_neg hpk] at he
      refine NQ.round (g := i) (i + 1) ⟨hlt, he⟩ (by show R.length - (i + 1) < R.length - i; omega) (.cons rfl (.cons rfl (.cons rfl (.cons rfl .nil)))) (fun w h => h)
  ·
    have hin : i = R.length := by simp at hlt; omega
    subst hin
    rw [List.drop_length] at he
    rw [← he]
    refine CW.exit (XQ.seq (XQ.seq (XQ.hit (NQ.seq (CW.seq (CW.region (ef := [1]) (bk := [1]) (RL.buildS (fr0.cells (.slice none 0 0)) Tryz.zeroValue30 pl_30 rfl rfl rfl rfl rfl (RL.storeW Tryz.sizeOf30 rfl rfl rfl rfl rfl rfl rfl (ones_fr _ rfl) (by repeat (first | exact Upd.here | apply Upd.there)) rfl rfl ?_))))))))
    refine RL.p rfl (RL.nil (NQ.seq (CW.ret ?_)))
    exact RQ.post (resWT rfl rfl rfl Tryz.isAgg30 Tryz.sizeOf30 (List.Mem.head _) rfl) (Split.none _) ⟨rfl, rfl, rfl⟩
/-! ### Take -/
def upTo (iv : Int) (x : Pq × FrO) : Bool := decide (x.1.1 ≤ iv)
def rOut (iv : Int) (R : Bq) : Bq := R.filter (upTo iv)
def rLeft (iv : Int) (R : Bq) : Bq := R.filter fun x => !upTo iv x
theorem rOut_snoc {iv : Int} {R : Bq} {x : Pq × FrO} : rOut iv (R ++ [x]) = if upTo iv x then rOut iv R ++ [x] else rOut iv R := by
  rw [rOut, List.filter_append]
  by_cases h : upTo iv x = true <;> simp [h, rOut]
theorem rLeft_snoc {iv : Int} {R : Bq} {x : Pq × FrO} : rLeft iv (R ++ [x]) = if upTo iv x then rLeft iv R else rLeft iv R ++ [x] := by
  rw [rLeft, List.filter_append]
  by_cases h : upTo iv x = true <;> simp [h, rLeft]
theorem rOut_le (iv : Int) (R : Bq) : (rOut iv R).length ≤ R.length := List.length_filter_le _ _
theorem rLeft_le (iv : Int) (R : Bq) : (rLeft iv R).length ≤ R.length := List.length_filter_le _ _
def RTakeR (y : Nat) (R : Bq) (iv : Int) : Value → List It → List It → Prop := fun v I' H' => ∃ oc cc od cd, v = slO oc (rOut iv R).length cc ∧ I' = [] ∧ H' = itmI oc cc (rOut iv R).length (rOut iv R) :: RBI y (rLeft iv R) od cd
theorem brtake_any (y : Nat) (R : Bq) (ob : Option Nat) (cp : Nat) (iv : Int) (hR : ∀ x ∈ R, x.2.Ok) (hl : R.length ≤ 100000) : Spc Tryz.prog 73 #[.pointer (some ⟨y, 0, none⟩), .int .u32 iv] [] (RBI y R ob cp) (RTakeR y R iv) := by
  have hf : ∀ x ∈ R, (itc x).length = 23 := itc_fm_len hR
  refine Spc.enter Tryz.func73 rfl rfl rfl (fun w0 hw0 => ?_)
  refine CW.seq (CW.rg (RL.p rfl (RL.nil (NQ.seq (CW.seq (CW.region (ef := [0, 1]) (bk := []) (RL.buildOwn [] Tryz.runUnderlying109 Tryz.sizeOf120 Tryz.zeroValue120 rfl rfl (by decide) (by decide) rfl (by decide) rfl rfl rfl rfl rfl rfl ?_)))))))
  intro b1
  refine RL.buildOwn [] Tryz.runUnderlying109 Tryz.sizeOf120 Tryz.zeroValue120 rfl rfl (by decide) (by decide) rfl (by decide) rfl rfl rfl rfl rfl rfl ?_
  intro b2
  refine RL.p rfl (RL.p rfl (RL.nil (NQ.seq (CW.seq (CW.seq (CW.rg (RL.p rfl (RL.nil (NQ.seq (CW.block ?_))))))))))
  refine CW.fact (p := ob = none → R.length = 0) (fun w hC e => by subst e; exact own_none (hC.s.h (itmI none cp R.length R) (by repeat (first | exact List.Mem.head _ | apply List.Mem.tail)))) (fun hob => ?_)
  refine CW.loop (γ := Nat × (Option Nat × Nat) × (Option Nat × Nat)) (fun g => g.1 ≤ R.length) (fun g => [(0, .pointer (some ⟨y, 0, none⟩)), (1, .int .u32 iv), (5, slO g.2.1.1 (rOut iv (R.take g.1)).length g.2.1.2), (6, slO g.2.2.1 (rLeft iv (R.take g.1)).length g.2.2.2), (7, .int .i64 (g.1 : Int))]) (fun _ => [])
    (fun g => [itmI g.2.1.1 g.2.1.2 (rOut iv (R.take g.1)).length (rOut iv (R.take g.1)), itmI g.2.2.1 g.2.2.2 (rLeft iv (R.take g.1)).length (rLeft iv (R.take g.1)), rbufI y ob R.length cp, itmI ob cp R.length R]) (fun g => R.length - g.1) (0, (some b1, 0), (some b2, 0)) (by simp)
    (.cons rfl (.cons rfl (.cons rfl (.cons rfl (.cons rfl .nil))))) (fun w h => h.rea (fun _ h => h) (by repeat (first | exact Rea.nil | (apply Rea.cons; (solve | (repeat (first | exact Del.here | apply Del.there))))))) ?_
  rintro ⟨i, ⟨oc, cc⟩, ⟨od, cd⟩⟩ hi
  dsimp only at hi ⊢
  refine CW.seq (CW.seq (CW.rg (RL.p rfl (RL.p rfl (RL.p rfl (RL.fieldAddr fa_111_0 rfl rfl rfl rfl (RL.loadq Tryz.isAgg109 rfl rfl rfl rfl ?_)))))))
  refine RL.lenS Tryz.runUnderlying109 rfl rfl rfl rfl (RL.p rfl (RL.nil (NQ.seq (CW.ok [0, 1, 5, 6, 7, 16] rfl ?_))))
  refine CW.cond rfl (fun hlt => ?_) (fun hlt => ?_)
  ·
    have hlt : i < R.length := by simp at hlt; omega
    obtain ⟨q, rfl⟩ : ∃ q, ob = some q := by
      cases ob with
      | none => exact absurd (hob rfl) (by omega)
      | some q => exact ⟨q, rfl⟩
    have hx := List.getElem?_eq_getElem hlt
    have htk : R.take (i + 1) = R.take i ++ [R[i]] := List.take_succ_eq_append_getElem hlt
    generalize R[i] = x at hx htk
    have h23 := itc_len (hR x (List.mem_of_getElem? hx))
    have hle1 := rOut_le iv (R.take i)
    have hle2 := rLeft_le iv (R.take i)
    rw [List.length_take] at hle1 hle2
    generalize hA : rOut iv (R.take i) = A at hle1 ⊢
    generalize hB : rLeft iv (R.take i) = B at hle2 ⊢
    have rx : ∀ I', Rds I' [itmI oc cc A.length A, itmI od cd B.length B, rbufI y (some q) R.length cp, itmI (some q) cp R.length R] ⟨q, 0 + i * 23, none⟩ (itc x) := fun I' => own_rds (List.Mem.tail _ (List.Mem.tail _ (List.Mem.tail _ (List.Mem.head _)))) hx hf
    refine CW.skip (NQ.seq (CW.seq (CW.block (CW.seq (CW.rg (RL.p rfl (RL.p rfl (RL.fieldAddr fa_111_0 rfl rfl rfl rfl (RL.loadq Tryz.isAgg109 rfl rfl rfl rfl ?_)))))))))
    refine RL.p rfl (RL.idxAt (j := i) Tryz.runUnderlying109 Tryz.sizeOf120 rfl rfl rfl rfl rfl rfl (hlt) (RL.fieldAddr fa_120_0 rfl rfl rfl rfl (RL.fieldAddr fa_118_0 rfl rfl rfl rfl (RL.load Tryz.isAgg24 rfl rfl rfl rfl (Rds.it0 (rx _)) (RL.p rfl (RL.p rfl (RL.nil (NQ.seq (CW.ok [0, 1, 5, 6, 7, 29] rfl ?_)))))))))
    refine CW.cond rfl (fun hu => ?_) (fun hu => ?_)
    ·
      refine CW.region (ef := [8, 9]) (bk := [9]) (RL.p rfl (RL.p rfl (RL.p rfl (RL.fieldAddr fa_111_0 rfl rfl rfl rfl (RL.loadq Tryz.isAgg109 rfl rfl rfl rfl ?_)))))
      refine RL.p rfl (RL.idxAt (j := i) Tryz.runUnderlying109 Tryz.sizeOf120 rfl rfl rfl rfl rfl rfl (hlt) (RL.loadA Tryz.isAgg120 Tryz.sizeOf120 rfl rfl rfl rfl (rx _) h23 (RL.buildSlice (itc x) Tryz.runUnderlying109 Tryz.sizeOf120 Tryz.zeroValue120 rfl rfl (by decide) (by decide) rfl rfl rfl rfl rfl (fill_one23 h23 rfl) ?_)))
      intro b3
      refine RL.appendA el_109 rfl rfl rfl rfl rfl rfl rfl (⟨.leave (.take (Pick.none _)), rfl⟩) (Src.cel (List.Mem.head _) h23) (ones_it _) (by first | omega | (simp only [maxLen]; omega)) (by first | omega | (simp only [maxLen]; omega)) ?_
      intro ob1 cap1 ho1
      refine RL.p rfl (RL.nil (NQ.block (NQ.seq (CW.ok [0, 1, 5, 6, 7] rfl (CW.rg (RL.p rfl (RL.bx rfl (wrapV_i64 (by omega) (by omega)) ?_)))))))
      refine RL.p rfl (RL.nil ?_)
      have hu : upTo iv x = true := hu
      have e1 : rOut iv (R.take (i + 1)) = A ++ [x] := by rw [htk, rOut_snoc, if_pos hu, hA]
      have e2 : rLeft iv (R.take (i + 1)) = B := by rw [htk, rLeft_snoc, if_pos hu, hB]
      refine NQ.round (g := (i, (oc, cc), (od, cd))) (i + 1, (ob1, cap1), (od, cd)) hlt (by show R.length - (i + 1) < R.length - i; omega) (.cons rfl (.cons rfl (.cons (by rw [e1, List.length_append]; rfl) (.cons (by rw [e2]; rfl) (.cons rfl .nil))))) (fun w h => ?_)
      dsimp only
      rw [e1, e2]
      show Cls w0 _ _ [own ob1 cap1 120 23 ((A ++ [x]).length) ((A ++ [x]).flatMap itc), itmI od cd B.length B, rbufI y (some q) R.length cp, itmI (some q) cp R.length R] w
      rw [itc_snoc, List.length_append]
      exact h.rea (fun _ h => h) (by repeat (first | exact Rea.nil | (apply Rea.cons; (solve | (repeat (first | exact Del.here | apply Del.there))))))
    ·
      refine CW.region (ef := [8, 9]) (bk := [9]) (RL.p rfl (RL.p rfl (RL.p rfl (RL.fieldAddr fa_111_0 rfl rfl rfl rfl (RL.loadq Tryz.isAgg109 rfl rfl rfl rfl ?_)))))
      refine RL.p rfl (RL.idxAt (j := i) Tryz.runUnderlying109 Tryz.sizeOf120 rfl rfl rfl rfl rfl rfl (hlt) (RL.loadA Tryz.isAgg120 Tryz.sizeOf120 rfl rfl rfl rfl (rx _) h23 (RL.buildSlice (itc x) Tryz.runUnderlying109 Tryz.sizeOf120 Tryz.zeroValue120 rfl rfl (by decide) (by decide) rfl rfl rfl rfl rfl (fill_one23 h23 rfl) ?_)))
      intro b3
      refine RL.appendA el_109 rfl rfl rfl rfl rfl rfl rfl (⟨.leave (.leave (.take (Pick.none _))), rfl⟩) (Src.cel (List.Mem.head _) h23) (ones_it _) (by first | omega | (simp only [maxLen]; omega)) (by first | omega | (simp only [maxLen]; omega)) ?_
      intro ob1 cap1 ho1
      refine RL.p rfl (RL.nil (NQ.block (NQ.seq (CW.ok [0, 1, 5, 6, 7] rfl (CW.rg (RL.p rfl (RL.bx rfl (wrapV_i64 (by omega) (by omega)) ?_)))))))
      refine RL.p rfl (RL.nil ?_)
      have hu : ¬ upTo iv x = true := by rw [show upTo iv x = false from hu]; decide
      have e1 : rOut iv (R.take (i + 1)) = A := by rw [htk, rOut_snoc, if_neg hu, hA]
      have e2 : rLeft iv (R.take (i + 1)) = B ++ [x] := by rw [htk, rLeft_snoc, if_neg hu, hB]
      refine NQ.round (g := (i, (oc, cc), (od, cd))) (i + 1, (oc, cc), (ob1, cap1)) hlt (by show R.length - (i + 1) < R.length - i; omega) (.cons rfl (.cons rfl (.cons (by rw [e1]; rfl) (.cons (by rw [e2, List.length_append]; rfl) (.cons rfl .nil))))) (fun w h => ?_)
      dsimp only
      rw [e1, e2]
      show Cls w0 _ _ [itmI oc cc A.length A, own ob1 cap1 120 23 ((B ++ [x]).length) ((B ++ [x]).flatMap itc), rbufI y (some q) R.length cp, itmI (some q) cp R.length R] w
      rw [itc_snoc, List.length_append]
      exact h.rea (fun _ h => h) (by repeat (first | exact Rea.nil | (apply Rea.cons; (solve | (repeat (first | exact Del.here | apply Del.there))))))
  ·
    have hin : i = R.length := by simp at hlt; omega
    subst hin
    rw [List.take_length]
    refine CW.exit (XQ.seq (XQ.seq (XQ.hit (NQ.seq (CW.seq (CW.region (ef := [4]) (bk := [4]) (RL.p rfl (RL.p rfl (RL.p rfl (RL.fieldAddr fa_111_0 rfl rfl rfl rfl (RL.store (vs := [_]) Tryz.sizeOf109 rfl rfl rfl rfl rfl rfl rfl rfl rfl (by repeat (first | exact Upd.here | apply Upd.there)) ?_)))))))))))
    refine RL.nil (NQ.seq (CW.ok [5] rfl (CW.seq (CW.rg (RL.p rfl (RL.p rfl (RL.nil (NQ.seq (CW.ret (RQ.rea (fun _ h => h) (H' := itmI oc cc (rOut iv R).length (rOut iv R) :: RBI y (rLeft iv R) od cd) (by repeat (first | exact Rea.nil | (apply Rea.cons; (solve | (repeat (first | exact Del.here | apply Del.there)))))) ?_))))))))))
    exact RQ.post (res1 rfl rfl) (.keep (.keep (.keep .nil))) ⟨oc, cc, od, cd, rfl, rfl, rfl⟩
def rDropN (iv : Int) (R : Bq) : Nat := if iv = 0 then 0 else (rOut (dropIv iv) R).length
def rDropL (iv : Int) (R : Bq) : Bq := if iv = 0 then R else rLeft (dropIv iv) R
end Go.Proofs.YtbdnebedmdoehaaGreat
