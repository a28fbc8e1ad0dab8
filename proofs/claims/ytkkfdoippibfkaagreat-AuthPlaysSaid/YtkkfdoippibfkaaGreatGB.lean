import Derived.Test.YtkkfdoippibfkaaGreatGA
namespace Go.Proofs.YtkkfdoippibfkaaGreat
open Go.PK

/-! ### A look, whichever way its parts are held -/
def lkT (K : List B8 × Int) (f : Fr) : Int := if K.2 = 0 then (if (f.tag == macTag K.1 f.signed) = true then 0 else 190) else K.2
def lkE (K : List B8 × Int) (Y : Bool) (l : List Lk) (M : Marks) (f : Fr) (t : Int) : Int := if tickB t = true then (if Y = true then (if kmay l f.sr t = 0 then (if lkT K f = 0 then mmay M f.sr (fmark f) else lkT K f) else kmay l f.sr t) else 191) else 2
def lkB (Y : Bool) (l : List Lk) (f : Fr) (t : Int) : Bool := tickB t && Y && decide (kmay l f.sr t = 0)
def lkL (mo ti : Int) (K : List B8 × Int) (Y : Bool) (l : List Lk) (M : Marks) (f : Fr) (t : Int) : List Lk := if lkB Y l f t = true then (if lkT K f = 0 then (if mmay M f.sr (fmark f) = 0 then goodL l f.sr else l) else (if K.2 = 0 then failL mo ti l f.sr t else l)) else l
def lkM (K : List B8 × Int) (Y : Bool) (l : List Lk) (M : Marks) (f : Fr) (t : Int) : Marks := if lkB Y l f t = true then (if lkT K f = 0 then takeM M f.sr (fmark f) else M) else M
theorem lookE_lk (g : GSt) (f : Fr) (t : Int) : lookE g f t = lkE (keyM g.T f.sr f.ep t) (g.Y f.sr f.kd) g.l g.M f t := rfl
theorem lookM_lk (g : GSt) (f : Fr) (t : Int) : lookM g f t = lkM (keyM g.T f.sr f.ep t) (g.Y f.sr f.kd) g.l g.M f t := rfl
theorem tagE_lk (g : GSt) (f : Fr) (t : Int) : tagE g f t = lkT (keyM g.T f.sr f.ep t) f := rfl
theorem lookL_lk (B : GB) (g : GSt) (f : Fr) (t : Int) : lookL B g f t = lkL B.mo B.ti (keyM g.T f.sr f.ep t) (g.Y f.sr f.kd) g.l g.M f t := by
  rw [lookL, lkL]
  show (if lookB g f t = true then _ else _) = (if lookB g f t = true then _ else _)
  split
  · rw [tagE_lk]
    split
    · rfl
    · next hE =>
      by_cases h0 : (keyM g.T f.sr f.ep t).2 = 0
      · by_cases h1 : tagOk g f t = true
        · exact absurd (show lkT (keyM g.T f.sr f.ep t) f = 0 by rw [lkT, if_pos h0]; exact if_pos h1) hE
        · rw [tagG, if_pos h0, if_neg h1, if_pos h0]
      · rw [tagG, if_neg h0, if_neg h0]
  · rfl
theorem lkL_len (mo ti : Int) (K : List B8 × Int) (Y : Bool) (l : List Lk) (M : Marks) (f : Fr) (t : Int) : (lkL mo ti K Y l M f t).length = l.length := by
  unfold lkL
  split
  · split
    · split
      · exact goodL_len _ _
      · rfl
    · split
      · exact failL_len _ _ _ _ _
      · rfl
  · rfl
theorem Rds.ownN {I H : List It} {b cap sz n j : Nat} {e : TypeId} {xs vs : List Value} (hm : own (some b) cap e sz n xs ∈ H) (h : ∀ q u, vs[q]? = some u → xs[j + q]? = some u) : Rds I H ⟨b, 0 + j, none⟩ vs := by
  have h2 := Rds.part (I := I) (j := j) (Rds.own hm) h
  rwa [add_none] at h2
theorem right_eq (x0 x1 y0 y1 : Int) (x y : Operand) (w : World) : (do eqGuard .eql 103 x y (.agg #[.int .i64 x0, .int .i64 x1]) (.agg #[.int .i64 y0, .int .i64 y1]); binOp .eql 103 (.agg #[.int .i64 x0, .int .i64 x1]) (.agg #[.int .i64 y0, .int .i64 y1]) : Sem Value).run Tryz.prog w = .ok (.bool (x0 == y0 && x1 == y1)) w := by
  simp [run_eqGuard_agg, run_eql_struct, run_equalIn_struct, Program.fieldsOf, Op.eqFields, Go.part, go_sem]
  by_cases h1 : x0 = y0 <;> by_cases h2 : x1 = y1 <;> simp [h1, h2]
theorem tag_ne (l1 l2 : List B8) (h1 : l1.length = 16) (h2 : l2.length = 16) (x y : Operand) (w : World) : (do eqGuard .neq 36 x y (.agg (bytes l1).toArray) (.agg (bytes l2).toArray); binOp .neq 36 (.agg (bytes l1).toArray) (.agg (bytes l2).toArray) : Sem Value).run Tryz.prog w = .ok (.bool (!(l1 == l2))) w :=
  neq_arr8 (e := 5) (by kernel_rfl) (ii := Tryz.t5) (by kernel_rfl) (by kernel_rfl) Tryz.isAgg5 Tryz.runUnderlying5 (by kernel_rfl) l1 l2 h1 h2 w
def hasW (W : List (Int × Int)) (a b : Int) : Bool := W.any fun p => p.1 == a && p.2 == b
theorem hasW_snoc {W : List (Int × Int)} {i : Nat} {p : Int × Int} (h : W[i]? = some p) (a b : Int) : hasW (W.take (i + 1)) a b = (hasW (W.take i) a b || (p.1 == a && p.2 == b)) := by
  obtain ⟨hlt, rfl⟩ := List.getElem?_eq_some_iff.1 h
  rw [hasW, List.take_succ_eq_append_getElem hlt, List.any_append]
  simp [hasW]
def RGR (B : RB) (g : RS) (x : Int) : Value → List It → List It → Prop := fun v I' H' => v = .int .i64 x ∧ I' = [] ∧ H' = RGI B g
abbrev rK (g : RS) (f : Fr) (t : Int) : List B8 × Int := rkeyM g.R f.sr f.ep t
abbrev rY (g : RS) (f : Fr) : Bool := hasW g.W f.sr f.kd
theorem rglook_any (B : RB) (g : RS) (f : Fr) (p : Option Addr) (c n : Nat) (t : Int) (hg : RSOk g) (hf : f.Ok) (hn : f.b.length = n) (hb : n ≤ 900000) :
    Spc Tryz.prog 61 #[.pointer (some ⟨B.yb, 0, none⟩), .int .i64 t, .agg (f.cells (.slice p n c)).toArray] [sls p 1 n (bytes f.b)] (RGI B g) (RGR B { g with l := lkL B.mo B.ti (rK g f t) (rY g f) g.l g.M f t, M := lkM (rK g f t) (rY g f) g.l g.M f t } (lkE (rK g f t) (rY g f) g.l g.M f t)) := by
  obtain ⟨R, ob, cp, l, M, W, ow, cw, D, od, cd⟩ := g
  obtain ⟨hr, he1, he2, hnR, hll, hwl, hdl⟩ := hg
  dsimp only at hr he1 he2 hnR hll hwl hdl ⊢
  have hl := fr_len hf.tag (.slice p n c)
  have hk := rkeyM_len R f.sr f.ep t
  have hsl := signed_len f
  have hmt := macTag_len (rkeyM R f.sr f.ep t).1 f.signed
  have hft := hf.tag
  refine Spc.enter Tryz.func61 rfl rfl rfl (fun w0 hw0 => ?_)
  refine CW.seq ?_
  refine CW.region (ef := [0]) (bk := []) ?_
  refine RL.box rfl rfl rfl rfl rfl rfl ?_
  intro b1
  refine RL.assign rfl rfl rfl rfl ?_
  refine RL.nil ?_
  refine NQ.seq ?_
  refine CW.seq ?_
  refine CW.seq ?_
  refine CW.freezeP (A := [_]) (B := [_, _, _, _, _, _, _]) (.take (.leave (.leave (.leave (.leave (.leave (.leave (.leave .nil)))))))) rfl ?_
  refine CW.region (ef := []) (bk := []) ?_
  refine RL.move rfl rfl rfl rfl ?_
  refine RL.bin rfl rfl rfl rfl rfl rfl ?_
  refine RL.move rfl rfl rfl rfl ?_
  apply RL.orB (d := 15) (dp := 18) (l' := (Sq.of [])) rfl (.cons (k := 0) rfl (.cons (k := 1) rfl (.cons (k := 5) rfl (.cons (k := 6) rfl .nil))))
  ·
    intro hb3 K3
    refine RL.move rfl rfl rfl rfl ?_
    refine RL.bin rfl rfl rfl rfl rfl rfl ?_
    refine RL.pickF rfl rfl rfl rfl rfl ?_
    exact K3 _ (.cons rfl (.cons (k := 0) rfl (.cons (k := 1) rfl (.cons (k := 5) rfl (.cons (k := 6) rfl .nil)))))
  ·
    intro hb3 K3
    refine RL.skip rfl rfl rfl rfl ?_
    refine RL.skip rfl rfl rfl rfl ?_
    refine RL.pickT rfl rfl rfl rfl rfl ?_
    exact K3 _ (.cons rfl (.cons (k := 0) rfl (.cons (k := 1) rfl (.cons (k := 5) rfl (.cons (k := 6) rfl .nil)))))
  refine RL.nil ?_
  refine NQ.seq ?_
  refine CW.cond rfl (fun ht => ?_) (fun ht => ?_)
  ·
    refine CW.seq ?_
    refine CW.region (ef := []) (bk := []) ?_
    refine RL.assign rfl rfl rfl rfl ?_
    refine RL.nil ?_
    refine NQ.seq ?_
    refine CW.ret ?_
    refine RQ.seq ?_
    have ht : ¬ tickB t = true := by simp at ht; simp [tickB]; omega
    have hB : ¬ lkB (hasW W f.sr f.kd) l f t = true := by simp [lkB, ht]
    rw [lkM, if_neg hB, lkL, if_neg hB, lkE, if_neg ht]
    refine RQ.rea (fun _ h => h) (H' := RGI B (⟨R, ob, cp, l, M, W, ow, cw, D, od, cd⟩)) (by repeat (first | exact Rea.nil | (apply Rea.cons; (solve | (repeat (first | exact Del.here | apply Del.there)))))) ?_
    exact RQ.post (res1 rfl rfl) (.keep (.keep (.keep (.keep (.keep (.keep (.keep .nil))))))) ⟨rfl, rfl, rfl⟩
  ·
    refine CW.skip ?_
    refine NQ.seq ?_
    refine CW.seq ?_
    refine CW.region (ef := []) (bk := []) ?_
    refine RL.assign rfl rfl rfl rfl ?_
    refine RL.nil ?_
    refine NQ.seq ?_
    refine CW.seq ?_
    refine CW.seq ?_
    refine CW.region (ef := []) (bk := []) ?_
    refine RL.assign rfl rfl rfl rfl ?_
    refine RL.nil ?_
    refine NQ.seq ?_
    refine CW.block ?_
    have ht : tickB t = true := by simp at ht; simp [tickB]; omega
    refine CW.fact (p := ow = none → W.length = 0) (fun w hC e => by
      have := own_sls (hC.s.h (own ow cw 103 2 W.length (wcs W)) (by repeat (first | exact List.Mem.head _ | apply List.Mem.tail)))
      exact sls_nil this (by rw [e]; rfl)) (fun hpa => ?_)
    refine CW.loop (γ := Nat) (fun i => i ≤ W.length) (fun i => [(0, .pointer (some ⟨B.yb, 0, none⟩)), (1, .int .i64 t), (5, .pointer (some ⟨b1, 0, none⟩)), (7, .bool (hasW (W.take i) f.sr f.kd)), (8, .int .i64 (i : Int))]) (fun _ => [cel b1 (f.cells (.slice p n c)) 38, sls p 1 n (bytes f.b)]) (fun _ => RGI B ⟨R, ob, cp, l, M, W, ow, cw, D, od, cd⟩) (fun i => W.length - i) 0 (by omega) (.cons rfl (.cons rfl (.cons rfl (.cons rfl (.cons rfl .nil))))) (fun _ h => h) ?_
    rintro i hi
    refine CW.seq ?_
    refine CW.seq ?_
    refine CW.region (ef := []) (bk := []) ?_
    refine RL.move rfl rfl rfl rfl ?_
    refine RL.move rfl rfl rfl rfl ?_
    refine RL.nilCheck rfl rfl rfl rfl ?_
    refine RL.fieldAddr fa_93_3 rfl rfl rfl rfl ?_
    refine RL.loadq Tryz.isAgg90 rfl rfl rfl rfl ?_
    refine RL.lenS Tryz.runUnderlying90 rfl rfl rfl rfl ?_
    refine RL.bin rfl rfl rfl rfl rfl rfl ?_
    refine RL.nil ?_
    refine NQ.seq ?_
    refine CW.only (.cons (k := 0) rfl (.cons (k := 1) rfl (.cons (k := 5) rfl (.cons (k := 7) rfl (.cons (k := 8) rfl (.cons (k := 25) rfl .nil)))))) ?_
    refine CW.cond rfl (fun hlt => ?_) (fun hlt => ?_)
    ·
      have hi2 : i < W.length := by simp at hlt; omega
      clear hlt
      cases ow with
      | none => exact absurd (hpa rfl) (by omega)
      | some ba =>
      have hx := List.getElem?_eq_getElem hi2
      generalize W[i] = q at hx
      refine CW.skip ?_
      refine NQ.seq ?_
      refine CW.seq ?_
      refine CW.block ?_
      refine CW.regionD (Sq.of [0, 1, 2, 3, 4, 5, 6, 7, 8, 9, 10, 11, 12, 13, 14, 15, 16]) [] [] [0, 1, 2, 3, 4, 6, 7, 9, 11, 13, 14, 15, 16] mixed (by kernel_rfl) ?_
      refine RL.move rfl rfl rfl rfl ?_
      refine RL.move rfl rfl rfl rfl ?_
      apply RL.orB (d := 29) (dp := 43) (l' := (Sq.of [16])) rfl (.cons (k := 0) rfl (.cons (k := 1) rfl (.cons (k := 5) rfl (.cons (k := 7) rfl (.cons (k := 8) rfl .nil)))))
      ·
        intro hb2 K2
        refine RL.move rfl rfl rfl rfl ?_
        refine RL.nilCheck rfl rfl rfl rfl ?_
        refine RL.fieldAddr fa_93_3 rfl rfl rfl rfl ?_
        refine RL.loadq Tryz.isAgg90 rfl rfl rfl rfl ?_
        refine RL.move rfl rfl rfl rfl ?_
        refine RL.idxAt (j := i) Tryz.runUnderlying90 Tryz.sizeOf103 rfl rfl rfl rfl rfl rfl (hi2) ?_
        refine RL.loadN (vs := [.int .i64 q.1, .int .i64 q.2]) Tryz.isAgg103 Tryz.sizeOf103 rfl rfl rfl rfl (Rds.ownN (by repeat (first | exact List.Mem.head _ | apply List.Mem.tail)) (fun j u hj => by rw [wcs_get hx (List.getElem?_eq_some_iff.1 hj).1]; exact hj)) ?_
        refine RL.fieldAddr fa_38_1 rfl rfl rfl rfl ?_
        refine RL.loadq Tryz.isAgg3 rfl rfl rfl rfl ?_
        refine RL.fieldAddr fa_38_0 rfl rfl rfl rfl ?_
        refine RL.loadq Tryz.isAgg3 rfl rfl rfl rfl ?_
        refine RL.buildS [_, _] Tryz.zeroValue103 pl_103 rfl rfl rfl rfl rfl ?_
        refine RL.cmp rfl rfl rfl rfl rfl (right_eq _ _ _ _ _ _) ?_
        refine RL.pickF rfl rfl rfl rfl rfl ?_
        exact K2 _ (.cons rfl (.cons (k := 0) rfl (.cons (k := 1) rfl (.cons (k := 5) rfl (.cons (k := 7) rfl (.cons (k := 8) rfl .nil))))))
      ·
        intro hb2 K2
        refine RL.skip rfl rfl rfl rfl ?_
        refine RL.skip rfl rfl rfl rfl ?_
        refine RL.skip rfl rfl rfl rfl ?_
        refine RL.skip rfl rfl rfl rfl ?_
        refine RL.skip rfl rfl rfl rfl ?_
        refine RL.skip rfl rfl rfl rfl ?_
        refine RL.skip rfl rfl rfl rfl ?_
        refine RL.skip rfl rfl rfl rfl ?_
        refine RL.skip rfl rfl rfl rfl ?_
        refine RL.skip rfl rfl rfl rfl ?_
        refine RL.skip rfl rfl rfl rfl ?_
        refine RL.skip rfl rfl rfl rfl ?_
        refine RL.skip rfl rfl rfl rfl ?_
        refine RL.pickT rfl rfl rfl rfl rfl ?_
        exact K2 _ (.cons rfl (.cons (k := 0) rfl (.cons (k := 1) rfl (.cons (k := 5) rfl (.cons (k := 7) rfl (.cons (k := 8) rfl .nil))))))
      refine RL.assign rfl rfl rfl rfl ?_
      refine RL.nil ?_
      refine NQ.block ?_
      refine NQ.seq ?_
      refine CW.region (ef := []) (bk := []) ?_
      refine RL.move rfl rfl rfl rfl ?_
      refine RL.binX rfl rfl rfl rfl rfl rfl (wrapV_i64 (by omega) (by omega)) ?_
      refine RL.assign rfl rfl rfl rfl ?_
      refine RL.nil ?_
      rw [← hasW_snoc hx]
      refine NQ.round (g := i) (i + 1) hi2 (by show W.length - (i + 1) < W.length - i; omega) (.cons rfl (.cons rfl (.cons rfl (.cons rfl (.cons rfl .nil))))) (fun w h => h)
    ·
      refine CW.exit ?_
      refine XQ.seq ?_
      refine XQ.seq ?_
      refine XQ.hit ?_
      refine NQ.seq ?_
      refine CW.seq ?_
      refine CW.seq ?_
      refine CW.region (ef := []) (bk := []) ?_
      refine RL.move rfl rfl rfl rfl ?_
      refine RL.not rfl rfl rfl rfl ?_
      refine RL.nil ?_
      refine NQ.seq ?_
      have hin : i = W.length := by simp at hlt; omega
      subst hin
      rw [List.take_length]
      refine CW.cond rfl (fun hY => ?_) (fun hY => ?_)
      ·
        refine CW.seq ?_
        refine CW.region (ef := []) (bk := []) ?_
        refine RL.assign rfl rfl rfl rfl ?_
        refine RL.nil ?_
        refine NQ.seq ?_
        refine CW.ret ?_
        refine RQ.seq ?_
        have hY : ¬ hasW W f.sr f.kd = true := by simpa using hY
        have hB : ¬ lkB (hasW W f.sr f.kd) l f t = true := by simp [lkB, hY]
        rw [lkM, if_neg hB, lkL, if_neg hB, lkE, if_pos ht, if_neg hY]
        refine RQ.rea (fun _ h => h) (H' := RGI B (⟨R, ob, cp, l, M, W, ow, cw, D, od, cd⟩)) (by repeat (first | exact Rea.nil | (apply Rea.cons; (solve | (repeat (first | exact Del.here | apply Del.there)))))) ?_
        exact RQ.post (res1 rfl rfl) (.keep (.keep (.keep (.keep (.keep (.keep (.keep .nil))))))) ⟨rfl, rfl, rfl⟩
      ·
        refine CW.skip ?_
        refine NQ.seq ?_
        refine CW.seq ?_
        refine CW.seq ?_
        refine CW.regionD (Sq.of [0, 1, 2, 3, 4, 5, 6, 7, 8]) [] [] [0, 1, 2, 4, 6, 8] mixed (by kernel_rfl) ?_
        refine RL.move rfl rfl rfl rfl ?_
        refine RL.nilCheck rfl rfl rfl rfl ?_
        refine RL.fieldAddr fa_93_2 rfl rfl rfl rfl ?_
        refine RL.loadq Tryz.isAgg77 rfl rfl rfl rfl ?_
        refine RL.fieldAddr fa_38_1 rfl rfl rfl rfl ?_
        refine RL.loadq Tryz.isAgg3 rfl rfl rfl rfl ?_
        refine RL.move rfl rfl rfl rfl ?_
        refine RL.callvq (rlmay_any B.rk B.mo B.ti l f.sr t hll) Tryz.call81 rfl rfl rfl rfl ?_
        refine RL.assign rfl rfl rfl rfl ?_
        refine RL.nil ?_
        refine NQ.seq ?_
        refine CW.only (.cons (k := 0) rfl (.cons (k := 1) rfl (.cons (k := 5) rfl (.cons (k := 9) rfl .nil)))) ?_
        refine CW.seq ?_
        refine CW.region (ef := []) (bk := []) ?_
        refine RL.move rfl rfl rfl rfl ?_
        refine RL.bin rfl rfl rfl rfl rfl rfl ?_
        refine RL.nil ?_
        refine NQ.seq ?_
        have hY : hasW W f.sr f.kd = true := by simpa using hY
        refine CW.cond rfl (fun hkm => ?_) (fun hkm => ?_)
        ·
          refine CW.seq ?_
          refine CW.region (ef := []) (bk := []) ?_
          refine RL.move rfl rfl rfl rfl ?_
          refine RL.assign rfl rfl rfl rfl ?_
          refine RL.nil ?_
          refine NQ.seq ?_
          refine CW.ret ?_
          refine RQ.seq ?_
          have hkm : ¬ kmay l f.sr t = 0 := by simpa using hkm
          have hB : ¬ lkB (hasW W f.sr f.kd) l f t = true := by simp [lkB, hkm]
          rw [lkM, if_neg hB, lkL, if_neg hB, lkE, if_pos ht, if_pos hY, if_neg hkm]
          refine RQ.rea (fun _ h => h) (H' := RGI B (⟨R, ob, cp, l, M, W, ow, cw, D, od, cd⟩)) (by repeat (first | exact Rea.nil | (apply Rea.cons; (solve | (repeat (first | exact Del.here | apply Del.there)))))) ?_
          exact RQ.post (res1 rfl rfl) (.keep (.keep (.keep (.keep (.keep (.keep (.keep .nil))))))) ⟨rfl, rfl, rfl⟩
        ·
          refine CW.skip ?_
          refine NQ.seq ?_
          refine CW.seq ?_
          refine CW.regionD (Sq.of [0, 1, 2, 3, 4, 5, 6, 7, 8, 9, 10, 11, 12, 13, 14, 15]) [13, 14] [14] [0, 1, 2, 4, 6, 8, 10, 11, 12, 15] mixed (by kernel_rfl) ?_
          refine RL.move rfl rfl rfl rfl ?_
          refine RL.nilCheck rfl rfl rfl rfl ?_
          refine RL.fieldAddr fa_93_0 rfl rfl rfl rfl ?_
          refine RL.loadq Tryz.isAgg80 rfl rfl rfl rfl ?_
          refine RL.fieldAddr fa_38_1 rfl rfl rfl rfl ?_
          refine RL.loadq Tryz.isAgg3 rfl rfl rfl rfl ?_
          refine RL.fieldAddr fa_38_2 rfl rfl rfl rfl ?_
          refine RL.loadq Tryz.isAgg32 rfl rfl rfl rfl ?_
          refine RL.move rfl rfl rfl rfl ?_
          refine RL.callvq (rkey_any B.y R ob cp f.sr f.ep t hr he1 he2 hf.ep (by omega)) Tryz.call82 rfl rfl rfl rfl ?_
          refine RL.move rfl rfl rfl rfl ?_
          refine RL.extract rfl rfl rfl rfl rfl ?_
          refine RL.extract rfl rfl rfl rfl rfl ?_
          refine RL.alloc (cs := List.replicate 32 (U8 0#8)) Tryz.zeroValue56 rfl rfl rfl rfl rfl ?_
          intro b2
          refine RL.storeW Tryz.sizeOf56 rfl rfl rfl rfl rfl rfl rfl (by first | rfl | exact ones_map one8 _ | exact ones_map (fun _ => rfl) _) (by repeat (first | exact Upd.here | apply Upd.there)) (by first | rfl | assumption | (simp only [List.length_map]; assumption) | (simp only [List.length_map, List.length_replicate, hl, hk]; done) | (simp; done)) (by first | rfl | assumption | (simp only [List.length_map]; assumption) | (simp only [List.length_map, List.length_replicate, hl, hk]; done) | (simp; done)) ?_
          refine RL.assign rfl rfl rfl rfl ?_
          refine RL.nil ?_
          refine NQ.seq ?_
          refine CW.only (.cons (k := 0) rfl (.cons (k := 1) rfl (.cons (k := 5) rfl (.cons (k := 10) rfl (.cons (k := 11) rfl .nil))))) ?_
          refine CW.seq ?_
          refine CW.seq ?_
          refine CW.region (ef := []) (bk := []) ?_
          refine RL.move rfl rfl rfl rfl ?_
          refine RL.bin rfl rfl rfl rfl rfl rfl ?_
          refine RL.nil ?_
          refine NQ.seq ?_
          have hkm : kmay l f.sr t = 0 := by simpa using hkm
          have hB : lkB (hasW W f.sr f.kd) l f t = true := by simp [lkB, ht, hY, hkm]
          rw [lkM, if_pos hB, lkL, if_pos hB, lkE, if_pos ht, if_pos hY, if_pos hkm]
          refine CW.cond rfl (fun he => ?_) (fun he => ?_)
          ·
            refine CW.seq ?_
            refine CW.region (ef := []) (bk := []) ?_
            refine RL.move rfl rfl rfl rfl ?_
            refine RL.assign rfl rfl rfl rfl ?_
            refine RL.nil ?_
            refine NQ.seq ?_
            refine CW.ret ?_
            refine RQ.seq ?_
            have he : ¬ (rkeyM R f.sr f.ep t).2 = 0 := by simpa using he
            have hT : ¬ lkT (rkeyM R f.sr f.ep t) f = 0 := by rw [lkT, if_neg he]; exact he
            rw [if_neg hT, if_neg hT, if_neg hT, if_neg he]
            refine RQ.rea (fun _ h => h) (H' := RGI B (⟨R, ob, cp, l, M, W, ow, cw, D, od, cd⟩)) (by repeat (first | exact Rea.nil | (apply Rea.cons; (solve | (repeat (first | exact Del.here | apply Del.there)))))) ?_
            exact RQ.post (res1 rfl rfl) (.keep (.keep (.keep (.keep (.keep (.keep (.keep .nil))))))) ⟨by rw [lkT, if_neg he]; rfl, rfl, rfl⟩
          ·
            have he : (rkeyM R f.sr f.ep t).2 = 0 := by simpa using he
            refine CW.freezeP (A := [_]) (B := [_, _, _, _, _, _, _]) (.take (.leave (.leave (.leave (.leave (.leave (.leave (.leave .nil)))))))) rfl ?_
            have f1 : RdsN [cel b2 (bytes (rkeyM R f.sr f.ep t).1) 56, cel b1 (f.cells (.slice p n c)) 38, sls p 1 n (bytes f.b)] ⟨b1, 0 + 5, none⟩ 16 (bytes f.tag) := RdsN.told (List.Mem.tail _ (List.Mem.head _)) (fr_tag f _) (by rw [List.length_map, hft])
            have f2 : RdsN [cel b2 (bytes (rkeyM R f.sr f.ep t).1) 56, cel b1 (f.cells (.slice p n c)) 38, sls p 1 n (bytes f.b)] ⟨b1, 0, none⟩ 21 (f.cells (.slice p n c)) := RdsN.told (List.Mem.tail _ (List.Mem.head _)) (fun j u h => by rw [Nat.zero_add]; exact h) hl
            have f3 : RdsN [cel b2 (bytes (rkeyM R f.sr f.ep t).1) 56, cel b1 (f.cells (.slice p n c)) 38, sls p 1 n (bytes f.b)] ⟨b2, 0, none⟩ 32 (bytes (rkeyM R f.sr f.ep t).1) := RdsN.told (List.Mem.head _) (fun j u h => by rw [Nat.zero_add]; exact h) (by rw [List.length_map, hk])
            refine CW.skip ?_
            refine NQ.seq ?_
            refine CW.seq ?_
            refine CW.seq ?_
            refine CW.regionD (Sq.of [0, 1, 4, 5, 2, 3, 6]) [2] [] [0, 1, 4, 5, 6] mixed (by kernel_rfl) ?_
            first | refine RL.loadMT Tryz.isAgg56 Tryz.sizeOf56 rfl rfl rfl rfl (by assumption) ?_ | refine RL.loadAT Tryz.isAgg56 Tryz.sizeOf56 rfl rfl rfl rfl (by first | assumption | (apply RdsI.rds; assumption)) (by first | rfl | assumption | (simp only [List.length_map]; assumption) | (simp only [List.length_map, List.length_replicate, hl, hk, hmt, hft]; done) | (simp; done)) ?_
            first | refine RL.loadMT Tryz.isAgg38 Tryz.sizeOf38 rfl rfl rfl rfl (by assumption) ?_ | refine RL.loadAT Tryz.isAgg38 Tryz.sizeOf38 rfl rfl rfl rfl (by first | assumption | (apply RdsI.rds; assumption)) (by first | rfl | assumption | (simp only [List.length_map]; assumption) | (simp only [List.length_map, List.length_replicate, hl, hk, hmt, hft]; done) | (simp; done)) ?_
            refine RL.fieldAddr fa_38_5 rfl rfl rfl rfl ?_
            first | refine RL.loadMT Tryz.isAgg36 Tryz.sizeOf36 rfl rfl rfl rfl (by assumption) ?_ | refine RL.loadAT Tryz.isAgg36 Tryz.sizeOf36 rfl rfl rfl rfl (by first | assumption | (apply RdsI.rds; assumption)) (by first | rfl | assumption | (simp only [List.length_map]; assumption) | (simp only [List.length_map, List.length_replicate, hl, hk, hmt, hft]; done) | (simp; done)) ?_
            refine RL.callq (rsigned_any f p c n hf hn hb) Tryz.call66 rfl rfl rfl rfl rfl (.inl rfl) ?_
            rintro _ _ _ ⟨ob1, cap1, rfl, rfl, rfl, ho1⟩
            refine RL.callv (rtag_any (rkeyM R f.sr f.ep t).1 hk (ob1.map fun b => ⟨b, 0, none⟩) (14 + n) cap1 f.signed (by omega) (by omega)) Tryz.call64 rfl rfl rfl rfl (Lend.own (by repeat (first | exact List.Mem.head _ | apply List.Mem.tail)) .nil) ?_
            refine RL.cmp rfl rfl rfl rfl rfl (tag_ne _ _ (by first | rfl | assumption | (simp only [List.length_map]; assumption) | (simp only [List.length_map, List.length_replicate, hl, hk, hmt, hft]; done) | (simp; done)) (by first | rfl | assumption | (simp only [List.length_map]; assumption) | (simp only [List.length_map, List.length_replicate, hl, hk, hmt, hft]; done) | (simp; done)) _ _) ?_
            refine RL.nil ?_
            refine NQ.seq ?_
            refine CW.only (.cons (k := 0) rfl (.cons (k := 1) rfl (.cons (k := 5) rfl (.cons (k := 79) rfl .nil)))) ?_
            refine CW.cond rfl (fun hr => ?_) (fun hr => ?_)
            ·
              refine CW.seq ?_
              refine CW.regionD (Sq.of [0, 1, 2, 3, 4, 5, 6, 7]) [7] [7] [0, 1, 2, 4, 6] mixed (by kernel_rfl) ?_
              refine RL.move rfl rfl rfl rfl ?_
              refine RL.nilCheck rfl rfl rfl rfl ?_
              refine RL.fieldAddr fa_93_2 rfl rfl rfl rfl ?_
              refine RL.loadq Tryz.isAgg77 rfl rfl rfl rfl ?_
              refine RL.fieldAddr fa_38_1 rfl rfl rfl rfl ?_
              refine RL.loadq Tryz.isAgg3 rfl rfl rfl rfl ?_
              refine RL.move rfl rfl rfl rfl ?_
              refine RL.callq (rlfail_any B.rk B.mo B.ti l f.sr t hll) Tryz.call83 rfl rfl rfl rfl rfl (.inr rfl) ?_
              have hr : ¬ (f.tag == macTag (rkeyM R f.sr f.ep t).1 f.signed) = true := by simp at hr ⊢; exact fun e => hr e.symm
              rintro _ _ _ ⟨rfl, rfl, rfl⟩
              refine RL.nil ?_
              refine NQ.seq ?_
              refine CW.only (.cons (k := 0) rfl (.cons (k := 5) rfl .nil)) ?_
              refine CW.seq ?_
              refine CW.region (ef := []) (bk := []) ?_
              refine RL.assign rfl rfl rfl rfl ?_
              refine RL.nil ?_
              refine NQ.seq ?_
              refine CW.ret ?_
              refine RQ.seq ?_
              have hT : lkT (rkeyM R f.sr f.ep t) f = 190 := by rw [lkT, if_pos he, if_neg hr]
              rw [hT, if_pos he]
              refine RQ.rea (fun _ h => h) (H' := RGI B (⟨R, ob, cp, failL B.mo B.ti l f.sr t, M, W, ow, cw, D, od, cd⟩)) (by repeat (first | exact Rea.nil | (apply Rea.cons; (solve | (repeat (first | exact Del.here | apply Del.there)))))) ?_
              exact RQ.post (res1 rfl rfl) (.keep (.keep (.keep (.keep (.keep (.keep (.keep .nil))))))) ⟨rfl, rfl, rfl⟩
            ·
              refine CW.skip ?_
              refine NQ.seq ?_
              refine CW.seq ?_
              refine CW.seq ?_
              refine CW.regionD (Sq.of [0, 1, 2, 3, 4, 5, 6, 7, 8, 9, 10, 11, 12]) [11] [11] [0, 1, 2, 4, 6, 8, 10, 12] mixed (by kernel_rfl) ?_
              refine RL.move rfl rfl rfl rfl ?_
              refine RL.nilCheck rfl rfl rfl rfl ?_
              refine RL.fieldAddr fa_93_1 rfl rfl rfl rfl ?_
              refine RL.loadq Tryz.isAgg84 rfl rfl rfl rfl ?_
              refine RL.fieldAddr fa_38_1 rfl rfl rfl rfl ?_
              refine RL.loadq Tryz.isAgg3 rfl rfl rfl rfl ?_
              refine RL.fieldAddr fa_38_2 rfl rfl rfl rfl ?_
              refine RL.loadq Tryz.isAgg32 rfl rfl rfl rfl ?_
              refine RL.fieldAddr fa_38_3 rfl rfl rfl rfl ?_
              refine RL.loadq Tryz.isAgg33 rfl rfl rfl rfl ?_
              refine RL.buildS [_, _] Tryz.zeroValue85 pl_85 rfl rfl rfl rfl rfl ?_
              refine RL.callq (rtake_any B.rt M f.sr (fmark f)) Tryz.call80 rfl rfl rfl rfl rfl (.inr rfl) ?_
              have hr : (f.tag == macTag (rkeyM R f.sr f.ep t).1 f.signed) = true := by simp at hr ⊢; exact hr.symm
              have hT : lkT (rkeyM R f.sr f.ep t) f = 0 := by rw [lkT, if_pos he, if_pos hr]
              rw [if_pos hT, if_pos hT, if_pos hT]
              rintro _ _ _ ⟨rfl, rfl, rfl⟩
              refine RL.assign rfl rfl rfl rfl ?_
              refine RL.nil ?_
              refine NQ.seq ?_
              refine CW.only (.cons (k := 0) rfl (.cons (k := 5) rfl (.cons (k := 12) rfl .nil))) ?_
              refine CW.seq ?_
              refine CW.region (ef := []) (bk := []) ?_
              refine RL.move rfl rfl rfl rfl ?_
              refine RL.bin rfl rfl rfl rfl rfl rfl ?_
              refine RL.nil ?_
              refine NQ.seq ?_
              refine CW.cond rfl (fun hx => ?_) (fun hx => ?_)
              ·
                refine CW.seq ?_
                refine CW.region (ef := []) (bk := []) ?_
                refine RL.move rfl rfl rfl rfl ?_
                refine RL.assign rfl rfl rfl rfl ?_
                refine RL.nil ?_
                refine NQ.seq ?_
                refine CW.ret ?_
                refine RQ.seq ?_
                have hx : ¬ mmay M f.sr (fmark f) = 0 := by simpa using hx
                rw [if_neg hx]
                refine RQ.rea (fun _ h => h) (H' := RGI B (⟨R, ob, cp, l, takeM M f.sr (fmark f), W, ow, cw, D, od, cd⟩)) (by repeat (first | exact Rea.nil | (apply Rea.cons; (solve | (repeat (first | exact Del.here | apply Del.there)))))) ?_
                exact RQ.post (res1 rfl rfl) (.keep (.keep (.keep (.keep (.keep (.keep (.keep .nil))))))) ⟨rfl, rfl, rfl⟩
              ·
                refine CW.skip ?_
                refine NQ.seq ?_
                refine CW.seq ?_
                refine CW.regionD (Sq.of [0, 1, 2, 3, 4, 5, 6]) [6] [6] [0, 1, 2, 4] mixed (by kernel_rfl) ?_
                refine RL.move rfl rfl rfl rfl ?_
                refine RL.nilCheck rfl rfl rfl rfl ?_
                refine RL.fieldAddr fa_93_2 rfl rfl rfl rfl ?_
                refine RL.loadq Tryz.isAgg77 rfl rfl rfl rfl ?_
                refine RL.fieldAddr fa_38_1 rfl rfl rfl rfl ?_
                refine RL.loadq Tryz.isAgg3 rfl rfl rfl rfl ?_
                refine RL.callq (rlgood_any B.rk B.mo B.ti l f.sr hll) Tryz.call84 rfl rfl rfl rfl rfl (.inr rfl) ?_
                have hx : mmay M f.sr (fmark f) = 0 := by simpa using hx
                rw [if_pos hx]
                rintro _ _ _ ⟨rfl, rfl, rfl⟩
                refine RL.nil ?_
                refine NQ.seq ?_
                refine CW.only .nil ?_
                refine CW.seq ?_
                refine CW.region (ef := []) (bk := []) ?_
                refine RL.assign rfl rfl rfl rfl ?_
                refine RL.nil ?_
                refine NQ.seq ?_
                refine CW.ret ?_
                refine RQ.rea (fun _ h => h) (H' := RGI B (⟨R, ob, cp, goodL l f.sr, takeM M f.sr (fmark f), W, ow, cw, D, od, cd⟩)) (by repeat (first | exact Rea.nil | (apply Rea.cons; (solve | (repeat (first | exact Del.here | apply Del.there)))))) ?_
                exact RQ.post (res1 rfl rfl) (.keep (.keep (.keep (.keep (.keep (.keep (.keep .nil))))))) ⟨by rw [hx], rfl, rfl⟩
end Go.Proofs.YtkkfdoippibfkaaGreat

namespace Go.Proofs.YtkkfdoippibfkaaGreat
open Go.PK

/-! ### How many were told it -/
def bump (e : Int) : List (Int × Int) → List (Int × Int)
  | [] => [(e, 1)]
  | q :: r => if q.1 = e then (q.1, IntKind.i64.wrap (q.2 + 1)) :: r else q :: bump e r
theorem bump_at {e : Int} : ∀ {D : List (Int × Int)} {i : Nat} {q : Int × Int}, (∀ (j : Nat) (o : Int × Int), j < i → D[j]? = some o → o.1 ≠ e) → D[i]? = some q → q.1 = e → bump e D = D.set i (q.1, IntKind.i64.wrap (q.2 + 1))
  | [], i, q, _, h, _ => by simp at h
  | x :: D, 0, q, _, h, he => by
    simp at h; subst h; simp [bump, he]
  | x :: D, i + 1, q, hn, h, he => by
    have h0 : x.1 ≠ e := hn 0 x (by omega) rfl
    rw [bump, if_neg h0, bump_at (i := i) (fun j o hj ho => hn (j + 1) o (by omega) (by simpa using ho)) (by simpa using h) he]
    rfl
theorem bump_none {e : Int} : ∀ {D : List (Int × Int)}, (∀ (j : Nat) (o : Int × Int), D[j]? = some o → o.1 ≠ e) → bump e D = D ++ [(e, 1)]
  | [], _ => rfl
  | x :: D, hn => by
    have h0 : x.1 ≠ e := hn 0 x rfl
    rw [bump, if_neg h0, bump_none (fun j o ho => hn (j + 1) o (by simpa using ho))]
    rfl
theorem bump_len (e : Int) : ∀ D : List (Int × Int), (bump e D).length ≤ D.length + 1
  | [] => by simp [bump]
  | q :: r => by
    have := bump_len e r
    unfold bump
    split <;> simp <;> omega
theorem wc_rdH {I H : List It} {W : List (Int × Int)} {ba cw i j : Nat} {q : Int × Int} {e : TypeId} {u : Value} (hm : own (some ba) cw e 2 W.length (wcs W) ∈ H) (hi : W[i]? = some q) (hj : (wc q)[j]? = some u) : Rd I H ⟨ba, 0 + i * 2 + j, none⟩ u := fun w hw => by
  have h2 : j < 2 := (List.getElem?_eq_some_iff.1 hj).1
  have := (own_sls (hw.h _ hm)).2.2 (i * 2 + j) u (by rw [wcs_get hi h2]; exact hj)
  rw [Nat.add_assoc, ← add_none]; exact this
theorem wcs_set {W : List (Int × Int)} {i : Nat} {q : Int × Int} (hi : W[i]? = some q) (x : Int) : spl (wcs W) (i * 2 + 1) [.int .i64 x] = wcs (W.set i (q.1, x)) := by
  obtain ⟨hlt, hq⟩ := List.getElem?_eq_some_iff.1 hi
  obtain ⟨A, B, e, hA⟩ : ∃ A B, W = A ++ q :: B ∧ A.length = i := ⟨W.take i, W.drop (i + 1), by rw [← hq, ← List.drop_eq_getElem_cons hlt, List.take_append_drop], by rw [List.length_take]; omega⟩
  subst e
  have e1 : wcs (A ++ q :: B) = wcs A ++ (wc q ++ wcs B) := by simp [wcs]
  have e2 : wcs ((A ++ q :: B).set i (q.1, x)) = wcs A ++ (wc (q.1, x) ++ wcs B) := by subst hA; simp [wcs]
  rw [e1, e2, show i * 2 + 1 = (wcs A).length + 1 by rw [wcs_len, hA], spl_app]
  congr 1
  simp only [wc, List.cons_append, spl]
  congr 2
  show spl (wcs B) 0 [] = wcs B
  cases wcs B <;> rfl
theorem wcs_snoc (W : List (Int × Int)) (q : Int × Int) : wcs (W ++ [q]) = wcs W ++ wc q := by simp [wcs]
def RCheckR (B : RB) (g : RS) (e : Int) : Value → List It → List It → Prop := fun v I' H' => v = .int .i64 e ∧ I' = [] ∧ ∃ od cd, H' = RGI B { g with D := bump e g.D, od := od, cd := cd }
theorem rgcheck_e (B : RB) (g : RS) (f : Fr) (p : Option Addr) (c n : Nat) (t : Int) (hg : RSOk g) (hf : f.Ok) (hn : f.b.length = n) (hb : n ≤ 900000) (e : Int) (l2 : List Lk) (M2 : Marks)
    (q1 : lkE (rK g f t) (rY g f) g.l g.M f t = e) (q2 : lkL B.mo B.ti (rK g f t) (rY g f) g.l g.M f t = l2) (q3 : lkM (rK g f t) (rY g f) g.l g.M f t = M2) :
    Spc Tryz.prog 33 #[.pointer (some ⟨B.yb, 0, none⟩), .int .i64 t, .agg (f.cells (.slice p n c)).toArray] [sls p 1 n (bytes f.b)] (RGI B g) (RCheckR B { g with l := l2, M := M2 } e) := by
  have hlook : Spc Tryz.prog 61 #[.pointer (some ⟨B.yb, 0, none⟩), .int .i64 t, .agg (f.cells (.slice p n c)).toArray] [sls p 1 n (bytes f.b)] (RGI B g) (RGR B { g with l := l2, M := M2 } e) := by
    have := rglook_any B g f p c n t hg hf hn hb
    rw [q1, q2, q3] at this; exact this
  clear q1 q2 q3
  obtain ⟨R, ob, cp, l, M, W, ow, cw, D, od, cd⟩ := g
  obtain ⟨hr, he1, he2, hnR, hll, hwl, hdl⟩ := hg
  dsimp only at hr he1 he2 hnR hll hwl hdl hlook ⊢
  have hl := fr_len hf.tag (.slice p n c)
  refine Spc.enter Tryz.func33 rfl rfl rfl (fun w0 hw0 => ?_)
  refine CW.seq ?_
  refine CW.region (ef := [0]) (bk := []) ?_
  refine RL.box rfl rfl rfl rfl rfl rfl ?_
  intro b1
  refine RL.assign rfl rfl rfl rfl ?_
  refine RL.nil ?_
  refine NQ.seq ?_
  refine CW.seq ?_
  refine CW.region (ef := [3]) (bk := [3]) ?_
  refine RL.move rfl rfl rfl rfl ?_
  refine RL.move rfl rfl rfl rfl ?_
  first | refine RL.loadM Tryz.isAgg38 Tryz.sizeOf38 rfl rfl rfl rfl (by assumption) ?_ | refine RL.loadA Tryz.isAgg38 Tryz.sizeOf38 rfl rfl rfl rfl (by first | assumption | (apply RdsI.rds; assumption)) (by first | rfl | assumption | (simp only [List.length_map]; assumption) | (simp only [List.length_map, List.length_replicate, hl]; done) | (simp; done)) ?_ | refine RL.loadW Tryz.isAgg38 Tryz.sizeOf38 rfl rfl rfl rfl (by (solve | (repeat (first | exact List.Mem.head _ | apply List.Mem.tail)))) (by first | rfl | assumption | (simp only [List.length_map]; assumption) | (simp only [List.length_map, List.length_replicate, hl]; done) | (simp; done)) ?_
  refine RL.callq (hlook) Tryz.call61 rfl rfl rfl rfl rfl (.inr rfl) ?_
  rintro _ _ _ ⟨rfl, rfl, rfl⟩
  refine RL.assign rfl rfl rfl rfl ?_
  refine RL.nil ?_
  refine NQ.seq ?_
  refine CW.only (.cons (k := 0) rfl (.cons (k := 7) rfl .nil)) ?_
  refine CW.seq ?_
  refine CW.seq ?_
  refine CW.region (ef := []) (bk := []) ?_
  refine RL.assign rfl rfl rfl rfl ?_
  refine RL.nil ?_
  refine NQ.seq ?_
  refine CW.block ?_
  refine CW.fact (p := od = none → D.length = 0) (fun w hC e => by
    have := own_sls (hC.s.h (own od cd 115 2 D.length (wcs D)) (by repeat (first | exact List.Mem.head _ | apply List.Mem.tail)))
    exact sls_nil this (by rw [e]; rfl)) (fun hpa => ?_)
  refine CW.loop (γ := Nat) (fun i => i ≤ D.length ∧ ∀ (j : Nat) (o : Int × Int), j < i → D[j]? = some o → o.1 ≠ e) (fun i => [(0, .pointer (some ⟨B.yb, 0, none⟩)), (7, .int .i64 e), (8, .int .i64 (i : Int))]) (fun _ => []) (fun _ => RGI B ⟨R, ob, cp, l2, M2, W, ow, cw, D, od, cd⟩) (fun i => D.length - i) 0 ⟨by omega, by omega⟩ (.cons rfl (.cons rfl (.cons rfl .nil))) (fun w h => h.rea (fun _ h => by simp at h) (by repeat (first | exact Rea.nil | (apply Rea.cons; (solve | (repeat (first | exact Del.here | apply Del.there))))))) ?_
  rintro i ⟨hi, hno⟩
  refine CW.seq ?_
  refine CW.seq ?_
  refine CW.region (ef := []) (bk := []) ?_
  refine RL.move rfl rfl rfl rfl ?_
  refine RL.move rfl rfl rfl rfl ?_
  refine RL.nilCheck rfl rfl rfl rfl ?_
  refine RL.fieldAddr fa_93_4 rfl rfl rfl rfl ?_
  refine RL.loadq Tryz.isAgg91 rfl rfl rfl rfl ?_
  refine RL.lenS Tryz.runUnderlying91 rfl rfl rfl rfl ?_
  refine RL.bin rfl rfl rfl rfl rfl rfl ?_
  refine RL.nil ?_
  refine NQ.seq ?_
  refine CW.only (.cons (k := 0) rfl (.cons (k := 7) rfl (.cons (k := 8) rfl (.cons (k := 19) rfl .nil)))) ?_
  refine CW.cond rfl (fun hlt => ?_) (fun hlt => ?_)
  ·
    have hi2 : i < D.length := by simp at hlt; omega
    clear hlt
    cases od with
    | none => exact absurd (hpa rfl) (by omega)
    | some ba =>
    have hx := List.getElem?_eq_getElem hi2
    generalize D[i] = q at hx
    have g0 : Rd [] (RGI B ⟨R, ob, cp, l2, M2, W, ow, cw, D, some ba, cd⟩) ⟨ba, 0 + i * 2 + 0, none⟩ (.int .i64 q.1) := wc_rdH (show own (some ba) cd 115 2 D.length (wcs D) ∈ RGI B ⟨R, ob, cp, l2, M2, W, ow, cw, D, some ba, cd⟩ from (by repeat (first | exact List.Mem.head _ | apply List.Mem.tail))) hx rfl
    have g1 : Rd [] (RGI B ⟨R, ob, cp, l2, M2, W, ow, cw, D, some ba, cd⟩) ⟨ba, 0 + i * 2 + 1, none⟩ (.int .i64 q.2) := wc_rdH (show own (some ba) cd 115 2 D.length (wcs D) ∈ RGI B ⟨R, ob, cp, l2, M2, W, ow, cw, D, some ba, cd⟩ from (by repeat (first | exact List.Mem.head _ | apply List.Mem.tail))) hx rfl
    refine CW.skip ?_
    refine NQ.seq ?_
    refine CW.seq ?_
    refine CW.block ?_
    refine CW.seq ?_
    refine CW.region (ef := []) (bk := []) ?_
    refine RL.move rfl rfl rfl rfl ?_
    refine RL.nilCheck rfl rfl rfl rfl ?_
    refine RL.fieldAddr fa_93_4 rfl rfl rfl rfl ?_
    refine RL.loadq Tryz.isAgg91 rfl rfl rfl rfl ?_
    refine RL.move rfl rfl rfl rfl ?_
    refine RL.idxAt (j := i) Tryz.runUnderlying91 Tryz.sizeOf115 rfl rfl rfl rfl rfl rfl (hi2) ?_
    refine RL.fieldAddr fa_115_0 rfl rfl rfl rfl ?_
    refine RL.loadq Tryz.isAgg25 rfl rfl rfl rfl ?_
    refine RL.move rfl rfl rfl rfl ?_
    refine RL.bin rfl rfl rfl rfl rfl rfl ?_
    refine RL.nil ?_
    refine NQ.seq ?_
    refine CW.only (.cons (k := 0) rfl (.cons (k := 7) rfl (.cons (k := 8) rfl (.cons (k := 31) rfl .nil)))) ?_
    refine CW.cond rfl (fun he => ?_) (fun he => ?_)
    ·
      refine CW.seq ?_
      refine CW.region (ef := [11]) (bk := [11]) ?_
      refine RL.move rfl rfl rfl rfl ?_
      refine RL.nilCheck rfl rfl rfl rfl ?_
      refine RL.fieldAddr fa_93_4 rfl rfl rfl rfl ?_
      refine RL.loadq Tryz.isAgg91 rfl rfl rfl rfl ?_
      refine RL.move rfl rfl rfl rfl ?_
      refine RL.idxAt (j := i) Tryz.runUnderlying91 Tryz.sizeOf115 rfl rfl rfl rfl rfl rfl (hi2) ?_
      refine RL.fieldAddr fa_115_1 rfl rfl rfl rfl ?_
      refine RL.loadq Tryz.isAgg3 rfl rfl rfl rfl ?_
      refine RL.bin rfl rfl rfl rfl rfl rfl ?_
      refine RL.idxAt (j := i) Tryz.runUnderlying91 Tryz.sizeOf115 rfl rfl rfl rfl rfl rfl (hi2) ?_
      refine RL.fieldAddr fa_115_1 rfl rfl rfl rfl ?_
      refine RL.storeO (off := i * 2 + 1) (vs := [_]) (wcs_set hx _) Tryz.sizeOf3 rfl rfl rfl rfl rfl (by rw [add_none, Nat.add_assoc]) rfl rfl rfl (by rw [wcs_len]; simp; omega) (by repeat (first | exact Upd.here | apply Upd.there)) ?_
      refine RL.nil ?_
      refine NQ.seq ?_
      refine CW.only (.cons (k := 0) rfl (.cons (k := 7) rfl (.cons (k := 8) rfl .nil))) ?_
      refine CW.seq ?_
      refine CW.region (ef := []) (bk := []) ?_
      refine RL.move rfl rfl rfl rfl ?_
      refine RL.assign rfl rfl rfl rfl ?_
      refine RL.nil ?_
      refine NQ.seq ?_
      refine CW.ret ?_
      refine RQ.block ?_
      refine RQ.seq ?_
      refine RQ.seq ?_
      refine RQ.block ?_
      refine RQ.seq ?_
      have he : q.1 = e := by simpa using he
      have hb := bump_at hno hx he
      exact RQ.post (res1 rfl rfl) (.keep (.keep (.keep (.keep (.keep (.keep (.keep .nil))))))) ⟨rfl, rfl, some ba, cd, by rw [RGI, hb]; simp [rgCel]⟩
    ·
      have he : ¬ q.1 = e := by simpa using he
      refine CW.skip ?_
      refine NQ.block ?_
      refine NQ.seq ?_
      refine CW.region (ef := []) (bk := []) ?_
      refine RL.move rfl rfl rfl rfl ?_
      refine RL.binX rfl rfl rfl rfl rfl rfl (wrapV_i64 (by omega) (by omega)) ?_
      refine RL.assign rfl rfl rfl rfl ?_
      refine RL.nil ?_
      refine NQ.round (g := i) (i + 1) ⟨hi2, fun j o hj ho => ?_⟩ (by show D.length - (i + 1) < D.length - i; omega) (.cons rfl (.cons rfl (.cons rfl .nil))) (fun w h => h)
      by_cases hji : j = i
      · subst hji; rw [hx] at ho; cases ho; exact he
      · exact hno j o (by omega) ho
  ·
    refine CW.exit ?_
    refine XQ.seq ?_
    refine XQ.seq ?_
    refine XQ.hit ?_
    refine NQ.seq ?_
    refine CW.seq ?_
    refine CW.region (ef := [7, 8, 11]) (bk := [8, 11]) ?_
    refine RL.move rfl rfl rfl rfl ?_
    refine RL.move rfl rfl rfl rfl ?_
    refine RL.nilCheck rfl rfl rfl rfl ?_
    refine RL.fieldAddr fa_93_4 rfl rfl rfl rfl ?_
    refine RL.loadq Tryz.isAgg91 rfl rfl rfl rfl ?_
    refine RL.move rfl rfl rfl rfl ?_
    refine RL.buildS [_, _] Tryz.zeroValue115 pl_115 rfl rfl rfl rfl rfl ?_
    refine RL.buildSlice [_, _] Tryz.runUnderlying91 Tryz.sizeOf115 Tryz.zeroValue115 rfl rfl (by decide) (by decide) rfl rfl rfl rfl rfl rfl ?_
    intro b2
    refine RL.appendq el_91 rfl rfl rfl rfl rfl rfl rfl ?_ (hs := (by first | (exact Src.cel (by (solve | (repeat (first | exact List.Mem.head _ | apply List.Mem.tail)))) (by first | rfl | assumption | (simp only [List.length_map]; assumption) | (simp only [List.length_map, List.length_replicate, hl]; done) | (simp; done))) | (exact Src.ownS (by (solve | (repeat (first | exact List.Mem.head _ | apply List.Mem.tail))))) | (exact Src.own (by (solve | (repeat (first | exact List.Mem.head _ | apply List.Mem.tail))))) | (exact Src.sls (by (solve | (repeat (first | exact List.Mem.head _ | apply List.Mem.tail))))) | (exact Src.celI (by (solve | (repeat (first | exact List.Mem.head _ | apply List.Mem.tail)))) (by first | rfl | assumption | (simp only [List.length_map]; assumption) | (simp only [List.length_map, List.length_replicate, hl]; done) | (simp; done)))))
    intro ob1 cap1 ho1
    refine RL.nilCheck rfl rfl rfl rfl ?_
    refine RL.fieldAddr fa_93_4 rfl rfl rfl rfl ?_
    refine RL.store (vs := [_]) Tryz.sizeOf91 rfl rfl rfl rfl rfl rfl rfl rfl rfl (by repeat (first | exact Upd.here | apply Upd.there)) ?_
    refine RL.nil ?_
    refine NQ.seq ?_
    refine CW.only (.cons (k := 7) rfl .nil) ?_
    refine CW.seq ?_
    refine CW.region (ef := []) (bk := []) ?_
    refine RL.move rfl rfl rfl rfl ?_
    refine RL.assign rfl rfl rfl rfl ?_
    refine RL.nil ?_
    refine NQ.seq ?_
    refine CW.ret ?_
    have hin : i = D.length := by simp at hlt; omega
    subst hin
    have hb : bump e D = D ++ [(e, 1)] := bump_none (fun j o ho => hno j o (List.getElem?_eq_some_iff.1 ho).1 ho)
    refine RQ.rea (fun _ h => h) (H' := [cel B.yb [.pointer (some ⟨B.y, 0, none⟩), .pointer (some ⟨B.rt, 0, none⟩), .pointer (some ⟨B.rk, 0, none⟩), slO ow W.length cw, slO ob1 (D.length + 1) cap1] 93, cel B.y [slO ob R.length cp] 83, own ob cp 131 35 R.length (rcs R), rtI B.rt M2, rkI B.rk B.mo B.ti l2, own ow cw 103 2 W.length (wcs W), own ob1 cap1 115 2 (D.length + 1) (wcs D ++ [.int .i64 e, .int .i64 1])]) (by repeat (first | exact Rea.nil | (apply Rea.cons; (solve | (repeat (first | exact Del.here | apply Del.there)))))) ?_
    exact RQ.post (res1 rfl rfl) (.keep (.keep (.keep (.keep (.keep (.keep (.keep .nil))))))) ⟨rfl, rfl, ob1, cap1, by rw [RGI, hb]; simp [rgCel, wcs, wc]⟩
end Go.Proofs.YtkkfdoippibfkaaGreat
