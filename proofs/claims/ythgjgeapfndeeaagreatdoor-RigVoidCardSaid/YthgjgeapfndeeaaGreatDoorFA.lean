import Derived.Test.YthgjgeapfndeeaaGreatDoorBase0
import Derived.Test.YthgjgeapfndeeaaGreatDoorPkRf
import Derived.Test.YthgjgeapfndeeaaGreatDoorEX5
import Derived.Test.YthgjgeapfndeeaaGreatDoorEH
set_option linter.unusedVariables false
set_option linter.unusedSimpArgs false
namespace Go.Proofs.YthgjgeapfndeeaaGreatDoor
open Go.PK
/-! ### Zones -/
abbrev Pt := Int × Int
structure Zn where
  keep : Bool
  L : List Pt
  fl : Int
  rf : Int
def ptB (p : Pt) : Bool := decide ((-2305843009213693952 ≤ p.1 ∧ p.1 ≤ 2305843009213693952) ∧ (-2305843009213693952 ≤ p.2 ∧ p.2 ≤ 2305843009213693952))
def edgB (L : List Pt) (i : Nat) : Bool := match L[i]?, L[(i + 1) % L.length]? with
  | some a, some b => ptB a && !(decide (a = b))
  | _, _ => true
def Zn.ok (z : Zn) : Bool := decide (3 ≤ z.L.length ∧ z.L.length ≤ 16 ∧ z.fl ≤ z.rf) && (List.range z.L.length).all (edgB z.L)
def Zn.err (z : Zn) : Int := if z.ok = true then 0 else 2
def Pt.cells (p : Pt) : List Value := [.int .i64 p.1, .int .i64 p.2]
def znC (k : Bool) (sl : Value) (f r : Int) : List Value := [.bool k, sl, .int .i64 f, .int .i64 r]
theorem flat_rdsN {I : List It} {b n sz i : Nat} {α : Type} {f : α → List Value} {R : List α} {x : α} (hm : sls (some ⟨b, 0, none⟩) sz n (R.flatMap f) ∈ I) (hx : R[i]? = some x) (hf : ∀ y ∈ R, (f y).length = sz) : RdsN I ⟨b, 0 + i * sz, none⟩ sz (f x) :=
  ⟨fun H => by
    have h := Rds.part (H := H) (j := i * sz) (vs := f x) (Rds.sls hm) (fun q u hu => by
      have hlt : q < sz := by have := (List.getElem?_eq_some_iff.1 hu).1; rwa [hf x (List.mem_of_getElem? hx)] at this
      rw [get_flat (f := f) (n := sz) hf hx hlt]; exact hu)
    rwa [add_none] at h, hf x (List.mem_of_getElem? hx)⟩
theorem part_s {P : Program} {t : TypeId} {cs : List Value} {off : Nat} {v : Value} (hag : ∀ w, (isAgg t).run P w = .ok false w) (h : cs[off]? = some v) (w : World) : (Go.part t cs.toArray off).run P w = .ok v w := by
  simp [Go.part, hag, h]
theorem eq2_i64 {P : Program} {t : TypeId} (hu : ∀ w, (underlying t).run P w = .ok (.int .i64) w) (d : Nat) (m n : Int) (w : World) : (Op.equalIn (d + 1) t (.int .i64 m) (.int .i64 n)).run P w = .ok (m == n) w := by
  rw [Op.equalIn.eq_2]
  simp [hu]
theorem eq2_items {P : Program} {e : TypeId} (hag : ∀ w, (isAgg e).run P w = .ok false w) (hu : ∀ w, (underlying e).run P w = .ok (.int .i64) w) (dd : Nat) (a b c d : Int) (w : World) :
    (Op.eqItems (dd + 1) e 1 #[.int .i64 a, .int .i64 b] #[.int .i64 c, .int .i64 d] (List.range 2)).run P w = .ok (decide ((a, b) = (c, d))) w := by
  have p : ∀ (x y : Int), (Go.part e #[Value.int .i64 x, .int .i64 y] (0 * 1)).run P w = .ok (.int .i64 x) w := fun x y => part_s (cs := [Value.int .i64 x, .int .i64 y]) (off := 0 * 1) hag rfl w
  have q : ∀ (x y : Int), (Go.part e #[Value.int .i64 x, .int .i64 y] (1 * 1)).run P w = .ok (.int .i64 y) w := fun x y => part_s (cs := [Value.int .i64 x, .int .i64 y]) (off := 1 * 1) hag rfl w
  rw [show List.range 2 = [0, 1] from rfl]
  have q' : ∀ (x y : Int), (Go.part e #[Value.int .i64 x, .int .i64 y] 1).run P w = .ok (.int .i64 y) w := q
  simp only [Op.eqItems, Sem.run_bind, p, q, eq2_i64 hu, Result.andThen_ok]
  by_cases h1 : a = c <;> by_cases h2 : b = d <;> simp [h1, h2, q', eq2_i64 hu]
theorem eql_pt {t e : TypeId} {ii : TypeInfo} (hu : Tryz.prog.underlying t = some (.array 2 e)) (hi : Tryz.prog.info? e = some ii) (hc : Tryz.prog.cellsOf e = 1) (hag : ∀ w, (isAgg e).run Tryz.prog w = .ok false w) (hue : ∀ w, (underlying e).run Tryz.prog w = .ok (.int .i64) w) (hm : Tryz.prog.eqGuardType Tryz.prog.depth t = false)
    (p q : Pt) (x y : Operand) (w : World) : (do eqGuard .eql t x y (.agg p.cells.toArray) (.agg q.cells.toArray); binOp .eql t (.agg p.cells.toArray) (.agg q.cells.toArray) : Sem Value).run Tryz.prog w = .ok (.bool (decide (p = q))) w := by
  have h : (Op.equal t (.agg p.cells.toArray) (.agg q.cells.toArray)).run Tryz.prog w = .ok (decide (p = q)) w := by
    unfold Op.equal
    rw [show Op.maxDepth = 9999 + 1 from rfl, run_equalIn_array (P := Tryz.prog) w 9999 _ _ hu hi, hc, show 9999 = 9998 + 1 from rfl]
    exact eq2_items hag hue 9998 p.1 p.2 q.1 q.2 w
  simp [eqGuard, binOp, hm, h]
theorem fright_any (p : Pt) : Spc Tryz.prog 129 #[.agg #[.int .i64 p.1, .int .i64 p.2]] [] [] (Is (.bool (ptB p))) := by
  refine Spc.enter Tryz.func129 rfl rfl rfl (fun w0 hw0 => ?_)
  refine CW.seq (CW.region (ef := [0]) (bk := []) (RL.box rfl rfl rfl rfl rfl rfl ?_))
  intro b1
  refine RL.p rfl (RL.nil (NQ.seq (CW.seq (CW.seq (CW.rg (RL.loadN (vs := [_, _]) Tryz.isAgg139 Tryz.sizeOf139 rfl rfl rfl rfl (by first | (apply Rds.cel; (solve | (repeat (first | exact List.Mem.head _ | apply List.Mem.tail))); exact at_spec ⟨rfl, rfl, trivial⟩) | (apply Rds.celI; (solve | (repeat (first | exact List.Mem.head _ | apply List.Mem.tail))); exact at_spec ⟨rfl, rfl, trivial⟩) | assumption | (apply RdsI.rds; assumption)) ?_))))))
  refine RL.p rfl (RL.nil (NQ.seq (CW.block (CW.loop (γ := Nat) (fun g => g ≤ 2 ∧ (1 ≤ g → -2305843009213693952 ≤ p.1 ∧ p.1 ≤ 2305843009213693952) ∧ (2 ≤ g → -2305843009213693952 ≤ p.2 ∧ p.2 ≤ 2305843009213693952)) (fun g => [(5, .agg #[.int .i64 p.1, .int .i64 p.2]), (6, .int .i64 (g : Int))]) (fun _ => []) (fun _ => []) (fun g => 2 - g) 0 ⟨by omega, by omega, by omega⟩ (.cons rfl (.cons rfl .nil)) (fun w h => h.rea (fun _ h => h) .nil) ?_))))
  rintro g ⟨hg, h1, h2⟩
  have hv : ∀ x : Int, (if g = 0 then p.1 else p.2) = x → g < 2 → (#[Value.int .i64 p.1, .int .i64 p.2])[g * 1]? = some (.int .i64 x) := by
    rintro _ rfl hlt
    have : g = 0 ∨ g = 1 := by omega
    rcases this with rfl | rfl <;> rfl
  refine CW.seq (CW.rg (RL.p rfl (RL.nil (NQ.seq (CW.seq ?_)))))
  refine CW.cond rfl (fun hlt => ?_) (fun hlt => ?_)
  · have hlt' : g < 2 := by simp at hlt; omega
    refine CW.skip (NQ.seq (CW.seq (CW.block (CW.seq (CW.rg (RL.index (j := g) Tryz.runUnderlying139 Tryz.sizeOf26 Tryz.isAgg26 rfl rfl rfl rfl rfl rfl hlt' (hv _ rfl hlt') (RL.p rfl (RL.nil (NQ.seq (CW.seq (CW.rg (RL.p rfl (RL.p rfl ?_)))))))))))))
    refine RL.p rfl ?_
    apply RL.orB (d := 11) (dp := 14) (l' := (Sq.of [])) rfl (sK [5, 6] rfl)
    ·
      intro hb3 K3
      refine RL.p rfl (RL.p rfl (RL.p rfl ?_))
      exact K3 _ (.cons rfl (sK [5, 6] rfl))
    ·
      intro hb3 K3
      refine RL.p rfl (RL.p rfl (RL.p rfl ?_))
      exact K3 _ (.cons rfl (sK [5, 6] rfl))
    refine RL.nil (NQ.seq ?_)
    refine CW.cond rfl (fun hb => ?_) (fun hb => ?_)
    ·
      refine CW.seq (CW.rg (RL.p rfl (RL.nil (NQ.seq (CW.ret (RQ.block (RQ.seq (RQ.seq (RQ.block (RQ.seq ?_))))))))))
      refine RQ.post (res1 rfl rfl) (Split.none _) ⟨?_, rfl, rfl⟩
      congr 1
      symm
      rw [ptB, decide_eq_false_iff_not]
      rintro ⟨⟨a1, a2⟩, b1, b2⟩
      have : g = 0 ∨ g = 1 := by omega
      rcases this with rfl | rfl <;> simp at hb <;> omega
    ·
      refine CW.skip (NQ.block (NQ.seq (CW.rg (RL.bx rfl (wrapV_i64 (by omega) (by omega)) ?_))))
      refine RL.p rfl (RL.nil ?_)
      refine NQ.round (g := g) (g + 1) ⟨by omega, fun _ => ?_, fun _ => ?_⟩ (by omega) (.cons rfl (.cons rfl .nil)) (fun w h => h.rea (fun _ h => h) .nil)
      · rcases Nat.eq_zero_or_pos g with rfl | h0
        · simp at hb; omega
        · exact h1 h0
      · have : g = 1 := by omega
        subst this
        simp at hb; omega
  ·
    refine CW.exit (XQ.seq (XQ.seq (XQ.hit (NQ.seq (CW.seq (CW.rg (RL.p rfl (RL.nil (NQ.seq (CW.ret ?_))))))))))
    have hg2 : g = 2 := by simp at hlt; omega
    subst hg2
    refine RQ.post (res1 rfl rfl) (Split.none _) ⟨?_, rfl, rfl⟩
    rw [ptB, decide_eq_true ⟨h1 (by omega), h2 (by omega)⟩]
def edL (L : List Pt) : List (List Value) := (List.range L.length).map fun k => [.agg (L.getD k (0, 0)).cells.toArray, .agg (L.getD ((k + 1) % L.length) (0, 0)).cells.toArray]
theorem edL_at {L : List Pt} {k : Nat} {a : List Value} (h : (edL L)[k]? = some a) : k < L.length ∧ a = [.agg (L.getD k (0, 0)).cells.toArray, .agg (L.getD ((k + 1) % L.length) (0, 0)).cells.toArray] := by
  have hk : k < L.length := by
    have := (List.getElem?_eq_some_iff.1 h).1
    simpa [edL] using this
  refine ⟨hk, ?_⟩
  rw [edL, List.getElem?_map, List.getElem?_range hk] at h
  exact (Option.some.inj h).symm
theorem ptD {L : List Pt} {k : Nat} (hk : k < L.length) : L[k]? = some (L.getD k (0, 0)) := by rw [List.getD_eq_getElem?_getD, List.getElem?_eq_getElem hk]; rfl
theorem edgB_D {L : List Pt} {k : Nat} (hk : k < L.length) : edgB L k = (ptB (L.getD k (0, 0)) && !(decide (L.getD k (0, 0) = L.getD ((k + 1) % L.length) (0, 0)))) := by
  rw [edgB, ptD hk, ptD (Nat.mod_lt _ (by omega))]
theorem Split.front : ∀ A B : List It, Split (A ++ B) A []
  | [], B => Split.none B
  | _ :: A, B => .keep (Split.front A B)
theorem Les.nil' : ∀ B : List It, Les B []
  | [] => .nil
  | _ :: B => .drop (Les.nil' B)
theorem Les.front : ∀ A B : List It, Les (A ++ B) A
  | [], B => Les.nil' B
  | _ :: A, B => .keep (Les.front A B)
theorem Split.keeps : ∀ H : List It, Split H H []
  | [] => .nil
  | _ :: H => .keep (Split.keeps H)
theorem edges_it (z : Zn) (ob : Option Nat) (cap n : Nat) (hn : z.L.length = n) (hl : n ≤ 1000000) :
    Iter Tryz.prog 247 [.agg (znC z.keep (slO ob n cap) z.fl z.rf).toArray] [] [sls (ob.map fun b => ⟨b, 0, none⟩) 2 n (z.L.flatMap Pt.cells)] (edL z.L) := by
  subst hn
  intro l X Z p hY
  show Spc _ _ #[.agg (znC z.keep (slO ob z.L.length cap) z.fl z.rf).toArray, .func (.yield l) #[] #[]] _ _ _
  have hLl : ∀ q ∈ z.L, (Pt.cells q).length = 2 := fun _ _ => rfl
  have hel : (edL z.L).length = z.L.length := by simp [edL]
  refine Spc.enter Tryz.func247 rfl rfl rfl (fun w0 hw0 => ?_)
  refine CW.seq (CW.region (ef := [0]) (bk := []) (RL.box rfl rfl rfl rfl rfl rfl ?_))
  intro b1
  refine RL.nil (NQ.seq (CW.seq (CW.freezeP (A := [cel b1 (znC z.keep (slO ob z.L.length cap) z.fl z.rf) 122]) (B := X 0) (.take (Pick.none _)) rfl ?_)))
  refine CW.genI (fun J hJ => ?_)
  have m1 : cel b1 (znC z.keep (slO ob z.L.length cap) z.fl z.rf) 122 ∈ J := hJ _ (by simp)
  have m2 : sls (ob.map fun b => ⟨b, 0, none⟩) 2 z.L.length (z.L.flatMap Pt.cells) ∈ J := hJ _ (by simp)
  clear hJ
  have fS : RdI J ⟨b1, 0 + 1, none⟩ (slO ob z.L.length cap) := ⟨fun _ => Rd.celI m1 rfl⟩
  refine CW.rg (RL.fieldAddr fa_122_1 rfl rfl rfl rfl (RL.loadq Tryz.isAgg120 rfl rfl rfl rfl ?_))
  refine RL.lenS Tryz.runUnderlying120 rfl rfl rfl rfl (RL.p rfl (RL.nil (NQ.seq (CW.block (CW.loop (γ := Nat) (fun i => i ≤ z.L.length ∧ ∀ k, k < i → p k = true) (fun i => [(1, .func (.yield l) #[] #[]), (2, .pointer (some ⟨b1, 0, none⟩)), (7, slO ob z.L.length cap), (8, .int .i64 (z.L.length : Int)), (9, .int .i64 (i : Int))]) (fun _ => J) (fun i => X i) (fun i => z.L.length - i) 0 ⟨Nat.zero_le _, by omega⟩ (.cons rfl (.cons rfl (.cons rfl (.cons rfl (.cons rfl .nil))))) (fun w h => h) ?_)))))
  rintro i ⟨hi, hp⟩
  refine CW.fact (p := ob = none → z.L.length = 0) (fun w hC e => sls_nil (hC.s.i _ m2) (by rw [e]; rfl)) (fun hpa => ?_)
  refine CW.seq (CW.rg (RL.p rfl (RL.nil (NQ.seq (CW.seq ?_)))))
  refine CW.cond rfl (fun hlt => ?_) (fun hlt => ?_)
  ·
    have hlt' : i < z.L.length := by simp at hlt; omega
    cases ob with
    | none => exact absurd (hpa rfl) (by omega)
    | some bo =>
    have hm' : (i + 1) % z.L.length < z.L.length := Nat.mod_lt _ (by omega)
    have fA : RdsN J ⟨bo, 0 + i * 2, none⟩ 2 (Pt.cells (z.L.getD i (0, 0))) := flat_rdsN (f := Pt.cells) m2 (ptD hlt') hLl
    have fB : RdsN J ⟨bo, 0 + (i + 1) % z.L.length * 2, none⟩ 2 (Pt.cells (z.L.getD ((i + 1) % z.L.length) (0, 0))) := flat_rdsN (f := Pt.cells) m2 (ptD hm') hLl
    have hy := hY i _ (show (edL z.L)[i]? = some [.agg (z.L.getD i (0, 0)).cells.toArray, .agg (z.L.getD ((i + 1) % z.L.length) (0, 0)).cells.toArray] by rw [edL, List.getElem?_map, List.getElem?_range hlt']; rfl)
    refine CW.skip (NQ.seq (CW.seq (CW.block (CW.seq (CW.region (ef := [3, 5]) (bk := [5]) (RL.p rfl (RL.idxAt (j := i) Tryz.runUnderlying120 Tryz.sizeOf139 rfl rfl rfl rfl rfl rfl (hlt') (RL.loadSq Tryz.isAgg139 Tryz.sizeOf139 rfl rfl rfl rfl ?_))))))))
    refine RL.alloc Tryz.zeroValue139 rfl rfl rfl rfl rfl ?_
    intro b2
    refine RL.p rfl (RL.store (vs := [_, _]) Tryz.sizeOf139 rfl rfl rfl rfl rfl rfl rfl rfl rfl (by repeat (first | exact Upd.here | apply Upd.there)) ?_)
    refine RL.nil (NQ.seq (CW.seq (CW.regionD (Sq.of [0, 1, 2, 3, 4, 5, 6, 7, 8, 9, 10, 11, 12, 13]) [12] [12] [0, 2, 3, 4, 5, 6, 7, 8, 9, 10, 11, 13] mixed (by kernel_rfl) ?_)))
    refine RL.p rfl (RL.loadW Tryz.isAgg139 Tryz.sizeOf139 rfl rfl rfl rfl (by repeat (first | exact List.Mem.head _ | apply List.Mem.tail)) rfl ?_)
    refine RL.fieldAddr fa_122_1 rfl rfl rfl rfl (RL.loadTq Tryz.isAgg120 rfl rfl rfl rfl ?_)
    refine RL.p rfl (RL.bx rfl (wrapV_i64 (by omega) (by omega)) ?_)
    refine RL.fieldAddr fa_122_1 rfl rfl rfl rfl (RL.loadTq Tryz.isAgg120 rfl rfl rfl rfl ?_)
    refine RL.lenS Tryz.runUnderlying120 rfl rfl rfl rfl (RL.remX (v' := .int .i64 (((i + 1) % z.L.length : Nat) : Int)) rfl rfl rfl rfl rfl (by omega) (by rw [show ((i : Int) + 1).tmod (z.L.length : Int) = (((i + 1) % z.L.length : Nat) : Int) from rfl]) ?_)
    refine RL.idxAt (j := (i + 1) % z.L.length) Tryz.runUnderlying120 Tryz.sizeOf139 rfl rfl rfl rfl rfl rfl hm' (RL.loadSTq Tryz.isAgg139 Tryz.sizeOf139 rfl rfl rfl rfl ?_)
    refine RL.callY hy rfl rfl rfl rfl rfl rfl rfl (.leave (Pick.all _)) ?_
    rintro _ _ ⟨rfl, rfl⟩
    refine RL.p rfl (RL.nil (NQ.seq (CW.ok [1, 2, 7, 8, 9, 27] rfl ?_)))
    refine CW.cond rfl (fun hq => ?_) (fun hq => ?_)
    · have hpf : p i = false := by simpa using hq
      refine CW.ret (RQ.block (RQ.seq (RQ.seq (RQ.block ?_))))
      rw [if_neg (by rw [hpf]; decide)]
      exact RQ.post (res0 rfl) (Split.front _ _) ⟨rfl, rfl, .inr ⟨i, by rw [hel]; exact hlt', hpf, rfl⟩⟩
    · have hpt : p i = true := by simpa using hq
      refine CW.skip (NQ.block (NQ.seq (CW.rg (RL.bx rfl (wrapV_i64 (by omega) (by omega)) ?_))))
      refine RL.p rfl (RL.nil ?_)
      rw [if_pos hpt]
      exact NQ.round (g := i) (i + 1) ⟨hlt', fun k hk => by rcases Nat.lt_succ_iff_lt_or_eq.1 hk with h | rfl; exact hp k h; exact hpt⟩ (by omega) (.cons rfl (.cons rfl (.cons rfl (.cons rfl (.cons rfl .nil))))) (fun w h => h.les (fun _ h => h) (Les.front _ _))
  ·
    refine CW.exit (XQ.seq (XQ.seq (XQ.hit ?_)))
    have hin : i = z.L.length := by simp at hlt; omega
    subst hin
    exact NQ.post (res0 rfl) (Split.keeps _) ⟨rfl, rfl, .inl ⟨by rw [hel], fun k hk => hp k (by rwa [hel] at hk)⟩⟩
theorem zn_yes {z : Zn} (h : 3 ≤ z.L.length ∧ z.L.length ≤ 16 ∧ z.fl ≤ z.rf) (hk : ∀ k, k < z.L.length → edgB z.L k = true) : z.err = 0 := by
  rw [Zn.err, Zn.ok, decide_eq_true h, Bool.true_and, if_pos]
  simpa using hk
theorem zn_no {z : Zn} {k : Nat} (hk : k < z.L.length) (h : edgB z.L k = false) : z.err = 2 := by
  rw [Zn.err, if_neg]
  rw [Zn.ok, Bool.and_eq_true, not_and]
  intro _ h2
  have := List.all_eq_true.1 h2 k (by simpa using hk)
  rw [h] at this; cases this
theorem zn_no' {z : Zn} (h : ¬ (3 ≤ z.L.length ∧ z.L.length ≤ 16 ∧ z.fl ≤ z.rf)) : z.err = 2 := by
  rw [Zn.err, if_neg]
  rw [Zn.ok, decide_eq_false h]; simp
theorem fcheck_any (z : Zn) (ob : Option Nat) (cap n : Nat) (hn : z.L.length = n) (hl : n ≤ 1000000) :
    Spc Tryz.prog 153 #[.agg (znC z.keep (slO ob n cap) z.fl z.rf).toArray] [sls (ob.map fun b => ⟨b, 0, none⟩) 2 n (z.L.flatMap Pt.cells)] [] (Is (.int .i64 z.err)) := by
  have hit := edges_it z ob cap n hn hl
  subst hn
  refine Spc.enter Tryz.func153 rfl rfl rfl (fun w0 hw0 => ?_)
  refine CW.seq (CW.region (ef := [0, 1]) (bk := []) (RL.box rfl rfl rfl rfl rfl rfl ?_))
  intro b1
  refine RL.alloc Tryz.zeroValue47 rfl rfl rfl rfl rfl ?_
  intro b2
  refine RL.nil (NQ.seq (CW.seq (CW.seq (CW.rg (RL.fieldAddr fa_122_1 rfl rfl rfl rfl (RL.loadq Tryz.isAgg120 rfl rfl rfl rfl ?_))))))
  refine RL.lenS Tryz.runUnderlying120 rfl rfl rfl rfl (RL.p rfl (RL.p rfl ?_))
  apply RL.orB (d := 9) (dp := 14) (l' := (Sq.of [10, 11, 12, 13, 14, 15, 16])) rfl (sK [1, 2] rfl)
  ·
    intro hb5 K5
    refine RL.fieldAddr fa_122_1 rfl rfl rfl rfl (RL.loadq Tryz.isAgg120 rfl rfl rfl rfl ?_)
    refine RL.lenS Tryz.runUnderlying120 rfl rfl rfl rfl (RL.p rfl (RL.p rfl ?_))
    exact K5 _ (.cons rfl (sK [1, 2] rfl))
  ·
    intro hb5 K5
    refine RL.p rfl (RL.p rfl (RL.p rfl (RL.p rfl (RL.p rfl ?_))))
    exact K5 _ (.cons rfl (sK [1, 2] rfl))
  refine RL.p rfl ?_
  apply RL.orB (d := 15) (dp := 21) (l' := (Sq.of [])) rfl (sK [1, 2] rfl)
  ·
    intro hb11 K11
    refine RL.fieldAddr fa_122_3 rfl rfl rfl rfl (RL.loadq Tryz.isAgg26 rfl rfl rfl rfl ?_)
    refine RL.fieldAddr fa_122_2 rfl rfl rfl rfl (RL.loadq Tryz.isAgg26 rfl rfl rfl rfl ?_)
    refine RL.p rfl (RL.p rfl ?_)
    exact K11 _ (.cons rfl (sK [1, 2] rfl))
  ·
    intro hb11 K11
    refine RL.p rfl (RL.p rfl (RL.p rfl (RL.p rfl (RL.p rfl (RL.p rfl ?_)))))
    exact K11 _ (.cons rfl (sK [1, 2] rfl))
  refine RL.nil (NQ.seq ?_)
  refine CW.cond rfl (fun h1 => ?_) (fun h1 => ?_)
  ·
    refine CW.seq (CW.region (ef := [0]) (bk := [0]) (RL.store (vs := [_]) Tryz.sizeOf47 rfl rfl rfl rfl rfl rfl rfl rfl rfl (by repeat (first | exact Upd.here | apply Upd.there)) ?_))
    refine RL.nil (NQ.seq (CW.ret (RQ.seq ?_)))
    exact RQ.post (resV rfl rfl Tryz.isAgg47 (by repeat (first | exact List.Mem.head _ | apply List.Mem.tail))) (Split.none _) ⟨by rw [zn_no' (by simp at h1; omega)], rfl, rfl⟩
  ·
    refine CW.skip (NQ.seq (CW.seq (CW.seq (CW.rg (RL.loadSq Tryz.isAgg122 Tryz.sizeOf122 rfl rfl rfl rfl ?_)))))
    refine RL.makeFunc rfl rfl rfl rfl rfl (RL.nil (NQ.seq (CW.block ?_)))
    have h1' : 3 ≤ z.L.length ∧ z.L.length ≤ 16 ∧ z.fl ≤ z.rf := by simp at h1; omega
    refine CW.rangeFunc (X := fun _ => [cel b2 [.int .i64 0] 47]) (Z := fun _ => [cel b2 [.int .i64 2] 47]) (p := edgB z.L) hit rfl Tryz.call247 (fun a ha => ?_) (by decide) (by repeat (first | exact Pick.nil | apply Pick.take | apply Pick.leave)) (by repeat (first | exact Lend.nil | (refine Lend.inI ?_ ?_; (solve | (repeat (first | exact List.Mem.head _ | apply List.Mem.tail)))) | (refine Lend.inH ?_ ?_; (solve | (repeat (first | exact List.Mem.head _ | apply List.Mem.tail)))))) (fun l r k a w1 ha => ?_) (fun hall D => ?_) (fun k hk1 hk2 D => ?_)
    · simp only [edL, List.mem_map] at ha
      obtain ⟨_, -, rfl⟩ := ha
      rfl
    · obtain ⟨hk, rfl⟩ := edL_at ha
      rw [edgB_D hk]
      generalize z.L.getD k (0, 0) = pa
      generalize z.L.getD ((k + 1) % z.L.length) (0, 0) = pb
      refine CW.seq (CW.region (ef := [0, 1]) (bk := [1]) (RL.alloc Tryz.zeroValue139 rfl rfl rfl rfl rfl ?_))
      intro b3
      refine RL.store (vs := [_, _]) Tryz.sizeOf139 rfl rfl rfl rfl rfl rfl rfl rfl rfl (by repeat (first | exact Upd.here | apply Upd.there)) ?_
      refine RL.nil (NQ.seq (CW.region (ef := [0, 1]) (bk := [1]) (RL.alloc Tryz.zeroValue139 rfl rfl rfl rfl rfl ?_)))
      intro b4
      refine RL.store (vs := [_, _]) Tryz.sizeOf139 rfl rfl rfl rfl rfl rfl rfl rfl rfl (by repeat (first | exact Upd.here | apply Upd.there)) ?_
      refine RL.nil (NQ.rdBegin ?_)
      refine CW.block (CW.seq (CW.rg (RL.loadSq Tryz.isAgg139 Tryz.sizeOf139 rfl rfl rfl rfl ?_)))
      refine RL.callvq (fright_any pa) Tryz.call129 rfl rfl rfl rfl ?_
      refine RL.p rfl (RL.p rfl ?_)
      apply RL.orB (d := 29) (dp := 33) (l' := (Sq.of [])) rfl (sK [2, 24, 25] rfl)
      ·
        intro hb4 K4
        refine RL.loadSq Tryz.isAgg139 Tryz.sizeOf139 rfl rfl rfl rfl ?_
        refine RL.loadSq Tryz.isAgg139 Tryz.sizeOf139 rfl rfl rfl rfl ?_
        refine RL.cmp rfl rfl rfl rfl rfl (fun w => eql_pt (by kernel_rfl) (ii := Tryz.t26) (by kernel_rfl) (by kernel_rfl) Tryz.isAgg26 Tryz.runUnderlying26 (by kernel_rfl) pa pb _ _ w) ?_
        refine RL.p rfl ?_
        exact K4 _ (.cons rfl (sK [2, 24, 25] rfl))
      ·
        intro hb4 K4
        refine RL.p rfl (RL.p rfl (RL.p rfl (RL.p rfl ?_)))
        exact K4 _ (.cons rfl (sK [2, 24, 25] rfl))
      refine RL.nil (NQ.seq ?_)
      refine CW.cond rfl (fun hq => ?_) (fun hq => ?_)
      · have hp : (ptB pa && !decide (pa = pb)) = false := by revert hq; cases ptB pa <;> cases decide (pa = pb) <;> simp
        rw [hp]
        refine CW.seq (CW.region (ef := [0]) (bk := [0]) (RL.store (vs := [_]) Tryz.sizeOf47 rfl rfl rfl rfl rfl rfl rfl rfl rfl (by repeat (first | exact Upd.here | apply Upd.there)) ?_))
        refine RL.nil (NQ.seq (CW.ret (RQ.block ?_)))
        exact RQ.rdRet (by repeat (first | exact Rea.nil | (apply Rea.cons; (solve | (repeat (first | exact Del.here | apply Del.there)))))) ⟨rfl, rfl⟩
      · have hp : (ptB pa && !decide (pa = pb)) = true := by revert hq; cases ptB pa <;> cases decide (pa = pb) <;> simp
        rw [hp]
        refine CW.skip (NQ.block ?_)
        exact NQ.rdEnd (by repeat (first | exact Rea.nil | (apply Rea.cons; (solve | (repeat (first | exact Del.here | apply Del.there)))))) ⟨rfl, rfl⟩
    ·
      refine NQ.block (NQ.seq (CW.seq (CW.region (ef := [0]) (bk := [0]) (RL.store (vs := [_]) Tryz.sizeOf47 rfl rfl rfl rfl rfl rfl rfl rfl rfl (by repeat (first | exact Upd.here | apply Upd.there)) ?_))))
      refine RL.nil (NQ.seq (CW.ret (RQ.marks ?_)))
      exact RQ.post (resV rfl rfl Tryz.isAgg47 (by repeat (first | exact List.Mem.head _ | apply List.Mem.tail))) (Split.none _) ⟨by rw [zn_yes h1' (fun k hk => hall k (by rw [edL]; simpa using hk))], rfl, rfl⟩
    ·
      refine RQ.block (RQ.seq (RQ.marks ?_))
      exact RQ.post (resV rfl rfl Tryz.isAgg47 (by repeat (first | exact List.Mem.head _ | apply List.Mem.tail))) (Split.none _) ⟨by rw [zn_no (by simpa [edL] using hk1) hk2], rfl, rfl⟩
end Go.Proofs.YthgjgeapfndeeaaGreatDoor

namespace Go.PK
section
variable {P : Program} {N : Fm} {E : Env} {w0 : World} {S : List Nat} {I H : List It}
theorem resVV {fn : Func} {t1 t2 : Tmp} {T1 T2 C1 C2 : TypeId} {b1 b2 : Nat} {v1 v2 : Value} (hf : fn.results = #[.cell t1 T1, .cell t2 T2]) (h1 : E.get t1 = some (.pointer (some ⟨b1, 0, none⟩))) (h2 : E.get t2 = some (.pointer (some ⟨b2, 0, none⟩))) (a1 : ∀ w, (isAgg T1).run P w = .ok false w) (a2 : ∀ w, (isAgg T2).run P w = .ok false w) (m1 : PK.cel b1 [v1] C1 ∈ H) (m2 : PK.cel b2 [v2] C2 ∈ H) :
    ∀ a w, Ag N a E → Cls w0 S I H w → (results fn a.tmps).run P w = .ok (.tuple #[v1, v2]) w := fun a w ha hC => by
  have r1 := run_isAggF a1 ((show Rd I H ⟨b1, 0, none⟩ v1 from Rd.get (I := I) m1 rfl) w hC.s)
  have r2 := run_isAggF a2 ((show Rd I H ⟨b2, 0, none⟩ v2 from Rd.get (I := I) m2 rfl) w hC.s)
  simp [results, hf, ha.t t1 _ h1, ha.t t2 _ h2, asAddr, r1, r2]
end
end Go.PK
namespace Go.Proofs.YthgjgeapfndeeaaGreatDoor
open Go.PK
/-! ### Whether a square touches a zone's edge -/
def fmayB (z : Zn) (p : Pt) (r : Int) : Bool := z.err == 0 && ptB p && decide (0 ≤ r) && decide (r ≤ 1152921504606846976)
abbrev ptA (z : Zn) (k : Nat) : Value := .agg (z.L.getD k (0, 0)).cells.toArray
abbrev ptE (z : Zn) (k : Nat) : Value := .agg (z.L.getD ((k + 1) % z.L.length) (0, 0)).cells.toArray
theorem fmay_any (z : Zn) (ob : Option Nat) (cap n : Nat) (hn : z.L.length = n) (hl : n ≤ 1000000) (p : Pt) (r : Int) :
    Spc Tryz.prog 315 #[.agg (znC z.keep (slO ob n cap) z.fl z.rf).toArray, .agg #[.int .i64 p.1, .int .i64 p.2], .int .i64 r] [sls (ob.map fun b => ⟨b, 0, none⟩) 2 n (z.L.flatMap Pt.cells)] [] (Is (.bool (fmayB z p r))) := by
  refine Spc.enter Tryz.func315 rfl rfl rfl (fun w0 hw0 => ?_)
  refine CW.seq (CW.region (ef := [0, 1]) (bk := []) (RL.box rfl rfl rfl rfl rfl rfl ?_))
  intro b1
  refine RL.box rfl rfl rfl rfl rfl rfl ?_
  intro b2
  refine RL.p rfl (RL.nil (NQ.seq (CW.seq (CW.region (ef := [1, 5]) (bk := []) (RL.loadSq Tryz.isAgg122 Tryz.sizeOf122 rfl rfl rfl rfl ?_)))))
  refine RL.callv (fcheck_any z ob cap n hn hl) Tryz.call153 rfl rfl rfl rfl (.inI (by simp) .nil) ?_
  refine RL.p rfl (RL.p rfl ?_)
  apply RL.andB (d := 10) (dp := 13) (l' := (Sq.of [7, 8, 9, 10, 11, 12, 13, 14, 15])) rfl (sK [2, 6] rfl)
  ·
    intro hb4 K4
    refine RL.loadSq Tryz.isAgg139 Tryz.sizeOf139 rfl rfl rfl rfl ?_
    refine RL.callvq (fright_any p) Tryz.call129 rfl rfl rfl rfl ?_
    refine RL.p rfl ?_
    exact K4 _ (.cons rfl (sK [2, 6] rfl))
  ·
    intro hb4 K4
    refine RL.p rfl (RL.p rfl (RL.p rfl ?_))
    exact K4 _ (.cons rfl (sK [2, 6] rfl))
  refine RL.p rfl ?_
  apply RL.andB (d := 14) (dp := 17) (l' := (Sq.of [11, 12, 13, 14, 15])) rfl (sK [2, 6] rfl)
  ·
    intro hb8 K8
    refine RL.p rfl (RL.p rfl (RL.p rfl ?_))
    exact K8 _ (.cons rfl (sK [2, 6] rfl))
  ·
    intro hb8 K8
    refine RL.p rfl (RL.p rfl (RL.p rfl ?_))
    exact K8 _ (.cons rfl (sK [2, 6] rfl))
  refine RL.p rfl ?_
  apply RL.andB (d := 18) (dp := 21) (l' := (Sq.of [15])) rfl (sK [6] rfl)
  ·
    intro hb12 K12
    refine RL.p rfl (RL.p rfl (RL.p rfl ?_))
    exact K12 _ (.cons rfl (sK [6] rfl))
  ·
    intro hb12 K12
    refine RL.p rfl (RL.p rfl (RL.p rfl ?_))
    exact K12 _ (.cons rfl (sK [6] rfl))
  refine RL.p rfl (RL.nil (NQ.seq (CW.ret ?_)))
  exact RQ.post (res1 rfl rfl) (Split.none _) ⟨by simp [fmayB], rfl, rfl⟩
theorem touches_any (z : Zn) (ob : Option Nat) (cap n : Nat) (hn : z.L.length = n) (hl : n ≤ 1000000) (p : Pt) (r : Int) (hm : fmayB z p r = true) (t : Nat → Bool)
    (ht : ∀ k, k < n → Spc Tryz.prog 316 #[.agg #[.int .i64 p.1, .int .i64 p.2, .int .i64 r], ptA z k, ptE z k] [] [] (Is (.bool (t k)))) :
    Spc Tryz.prog 218 #[.agg (znC z.keep (slO ob n cap) z.fl z.rf).toArray, .agg #[.int .i64 p.1, .int .i64 p.2], .int .i64 r] [sls (ob.map fun b => ⟨b, 0, none⟩) 2 n (z.L.flatMap Pt.cells)] [] (Is (.tuple #[.bool ((List.range n).any t), .int .i64 0])) := by
  have hit := edges_it z ob cap n hn hl
  have hmay := fmay_any z ob cap n hn hl p r
  rw [hm] at hmay
  subst hn
  refine Spc.enter Tryz.func218 rfl rfl rfl (fun w0 hw0 => ?_)
  refine CW.seq (CW.region (ef := [0, 1, 2, 3]) (bk := []) (RL.box rfl rfl rfl rfl rfl rfl ?_))
  intro b1
  refine RL.box rfl rfl rfl rfl rfl rfl ?_
  intro b2
  refine RL.alloc Tryz.zeroValue4 rfl rfl rfl rfl rfl ?_
  intro b3
  refine RL.alloc Tryz.zeroValue47 rfl rfl rfl rfl rfl ?_
  intro b4
  refine RL.nil (NQ.seq (CW.seq (CW.seq (CW.rg (RL.loadSq Tryz.isAgg122 Tryz.sizeOf122 rfl rfl rfl rfl ?_)))))
  refine RL.loadSq Tryz.isAgg139 Tryz.sizeOf139 rfl rfl rfl rfl ?_
  refine RL.p rfl (RL.callv (hmay) Tryz.call315 rfl rfl rfl rfl (.inI (by simp) .nil) ?_)
  refine RL.p rfl (RL.nil (NQ.seq (CW.ok [2, 3, 4, 6, 7, 15] rfl (CW.condF rfl (rfl) (CW.skip (NQ.seq (CW.seq (CW.region (ef := [3, 4]) (bk := [4]) (RL.loadSq Tryz.isAgg139 Tryz.sizeOf139 rfl rfl rfl rfl ?_)))))))))
  refine RL.p rfl (RL.buildS [_, _, _] Tryz.zeroValue575 pl_575 rfl rfl rfl rfl rfl (RL.alloc Tryz.zeroValue575 rfl rfl rfl rfl rfl ?_))
  intro b5
  refine RL.store (vs := [_, _, _]) Tryz.sizeOf575 rfl rfl rfl rfl rfl rfl rfl rfl rfl (by repeat (first | exact Upd.here | apply Upd.there)) ?_
  refine RL.nil (NQ.seq (CW.ok [3, 6, 7, 8] rfl (CW.seq (CW.seq (CW.rg (RL.loadSq Tryz.isAgg122 Tryz.sizeOf122 rfl rfl rfl rfl ?_))))))
  refine RL.makeFunc rfl rfl rfl rfl rfl (RL.nil (NQ.seq (CW.block ?_)))
  refine CW.rangeFunc (X := fun _ => [cel b5 [.int .i64 p.1, .int .i64 p.2, .int .i64 r] 575, cel b4 [.int .i64 0] 47, cel b3 [.bool false] 4]) (Z := fun _ => [cel b5 [.int .i64 p.1, .int .i64 p.2, .int .i64 r] 575, cel b4 [.int .i64 0] 47, cel b3 [.bool true] 4]) (p := fun k => !t k) hit rfl Tryz.call247 (fun a ha => ?_) (by decide) (by repeat (first | exact Pick.nil | apply Pick.take | apply Pick.leave)) (by repeat (first | exact Lend.nil | (refine Lend.inI ?_ ?_; (solve | (repeat (first | exact List.Mem.head _ | apply List.Mem.tail)))) | (refine Lend.inH ?_ ?_; (solve | (repeat (first | exact List.Mem.head _ | apply List.Mem.tail)))))) (fun l r k a w1 ha => ?_) (fun hall D => ?_) (fun k hk1 hk2 D => ?_)
  · simp only [edL, List.mem_map] at ha
    obtain ⟨_, -, rfl⟩ := ha
    rfl
  · obtain ⟨hk, rfl⟩ := edL_at ha
    have hk' := ht k hk
    refine CW.seq (CW.region (ef := [0, 1]) (bk := [1]) (RL.alloc Tryz.zeroValue139 rfl rfl rfl rfl rfl ?_))
    intro b6
    refine RL.store (vs := [_, _]) Tryz.sizeOf139 rfl rfl rfl rfl rfl rfl rfl rfl rfl (by repeat (first | exact Upd.here | apply Upd.there)) ?_
    refine RL.nil (NQ.seq (CW.region (ef := [0, 1]) (bk := [1]) (RL.alloc Tryz.zeroValue139 rfl rfl rfl rfl rfl ?_)))
    intro b7
    refine RL.store (vs := [_, _]) Tryz.sizeOf139 rfl rfl rfl rfl rfl rfl rfl rfl rfl (by repeat (first | exact Upd.here | apply Upd.there)) ?_
    refine RL.nil (NQ.rdBegin ?_)
    refine CW.block (CW.seq (CW.rg (RL.loadSq Tryz.isAgg575 Tryz.sizeOf575 rfl rfl rfl rfl ?_)))
    refine RL.loadSq Tryz.isAgg139 Tryz.sizeOf139 rfl rfl rfl rfl ?_
    refine RL.loadSq Tryz.isAgg139 Tryz.sizeOf139 rfl rfl rfl rfl ?_
    refine RL.callvq (hk') Tryz.call316 rfl rfl rfl rfl ?_
    refine RL.nil (NQ.seq (CW.ok [6, 7, 21, 22, 26] rfl ?_))
    refine CW.cond rfl (fun hq => ?_) (fun hq => ?_)
    · have hq : t k = true := hq
      rw [hq]
      refine CW.seq (CW.region (ef := [0, 1]) (bk := [0, 1]) (RL.store (vs := [_]) Tryz.sizeOf4 rfl rfl rfl rfl rfl rfl rfl rfl rfl (by repeat (first | exact Upd.here | apply Upd.there)) ?_))
      refine RL.store (vs := [_]) Tryz.sizeOf47 rfl rfl rfl rfl rfl rfl rfl rfl rfl (by repeat (first | exact Upd.here | apply Upd.there)) ?_
      refine RL.nil (NQ.seq (CW.ret (RQ.block ?_)))
      exact RQ.rdRet (by repeat (first | exact Rea.nil | (apply Rea.cons; (solve | (repeat (first | exact Del.here | apply Del.there)))))) ⟨rfl, rfl⟩
    · have hq : t k = false := hq
      rw [hq]
      refine CW.skip (NQ.block ?_)
      exact NQ.rdEnd (by repeat (first | exact Rea.nil | (apply Rea.cons; (solve | (repeat (first | exact Del.here | apply Del.there)))))) ⟨rfl, rfl⟩
  · have hA : (List.range z.L.length).any t = false := by
      rw [List.any_eq_false]
      intro k hk
      have := hall k (by simpa [edL] using hk)
      simpa using this
    refine NQ.block (NQ.seq (CW.seq (CW.region (ef := [0, 1]) (bk := [0, 1]) (RL.store (vs := [_]) Tryz.sizeOf4 rfl rfl rfl rfl rfl rfl rfl rfl rfl (by repeat (first | exact Upd.here | apply Upd.there)) ?_))))
    refine RL.store (vs := [_]) Tryz.sizeOf47 rfl rfl rfl rfl rfl rfl rfl rfl rfl (by repeat (first | exact Upd.here | apply Upd.there)) ?_
    refine RL.nil (NQ.seq (CW.ret (RQ.marks ?_)))
    exact RQ.post (resVV rfl rfl rfl Tryz.isAgg4 Tryz.isAgg47 (by repeat (first | exact List.Mem.head _ | apply List.Mem.tail)) (by repeat (first | exact List.Mem.head _ | apply List.Mem.tail))) (Split.none _) ⟨by rw [hA], rfl, rfl⟩
  · have hA : (List.range z.L.length).any t = true := List.any_eq_true.2 ⟨k, by simpa [edL] using hk1, by simpa using hk2⟩
    refine RQ.block (RQ.seq (RQ.marks ?_))
    exact RQ.post (resVV rfl rfl rfl Tryz.isAgg4 Tryz.isAgg47 (by repeat (first | exact List.Mem.head _ | apply List.Mem.tail)) (by repeat (first | exact List.Mem.head _ | apply List.Mem.tail))) (Split.none _) ⟨by rw [hA], rfl, rfl⟩
end Go.Proofs.YthgjgeapfndeeaaGreatDoor

namespace Go.Proofs.YthgjgeapfndeeaaGreatDoor
open Go.PK
/-! ### Whether a point is within -/
def flipB (z : Zn) (p : Pt) (s : Nat → Int) (k : Nat) : Bool := (decide ((z.L.getD k (0, 0)).2 > p.2) != decide ((z.L.getD ((k + 1) % z.L.length) (0, 0)).2 > p.2)) && (decide (s k > 0) == decide ((z.L.getD ((k + 1) % z.L.length) (0, 0)).2 > p.2))
def parB (z : Zn) (p : Pt) (s : Nat → Int) : Nat → Bool
  | 0 => false
  | k + 1 => if flipB z p s k = true then !parB z p s k else parB z p s k
theorem within_any (z : Zn) (ob : Option Nat) (cap n : Nat) (hn : z.L.length = n) (hl : n ≤ 1000000) (p : Pt) (hm : fmayB z p 0 = true) (t : Nat → Bool) (s : Nat → Int)
    (ht : ∀ k, k < n → Spc Tryz.prog 316 #[.agg #[.int .i64 p.1, .int .i64 p.2, .int .i64 0], ptA z k, ptE z k] [] [] (Is (.bool (t k))))
    (hs : ∀ k, k < n → Spc Tryz.prog 317 #[ptA z k, ptE z k, .agg #[.int .i64 p.1, .int .i64 p.2]] [] [] (Is (.int .i64 (s k)))) :
    Spc Tryz.prog 219 #[.agg (znC z.keep (slO ob n cap) z.fl z.rf).toArray, .agg #[.int .i64 p.1, .int .i64 p.2]] [sls (ob.map fun b => ⟨b, 0, none⟩) 2 n (z.L.flatMap Pt.cells)] [] (Is (.tuple #[.bool ((List.range n).any t || parB z p s n), .int .i64 0])) := by
  have hit := edges_it z ob cap n hn hl
  have hto := touches_any z ob cap n hn hl p 0 hm t ht
  subst hn
  generalize hT : (List.range z.L.length).any t = T at hto
  refine Spc.enter Tryz.func219 rfl rfl rfl (fun w0 hw0 => ?_)
  refine CW.seq (CW.region (ef := [0, 1]) (bk := []) (RL.box rfl rfl rfl rfl rfl rfl ?_))
  intro b1
  refine RL.box rfl rfl rfl rfl rfl rfl ?_
  intro b2
  refine RL.p rfl (RL.p rfl (RL.nil (NQ.seq (CW.seq (CW.rg (RL.loadSq Tryz.isAgg122 Tryz.sizeOf122 rfl rfl rfl rfl ?_))))))
  refine RL.loadSq Tryz.isAgg139 Tryz.sizeOf139 rfl rfl rfl rfl ?_
  refine RL.callv (hto) Tryz.call218 rfl rfl rfl rfl (.inI (by simp) .nil) ?_
  refine RL.p rfl (RL.p rfl (RL.p rfl (RL.p rfl (RL.p rfl (RL.nil (NQ.seq (CW.ok [2, 3, 6, 7] rfl (CW.seq (CW.seq (CW.rg (RL.p rfl (RL.p rfl (RL.p rfl ?_)))))))))))))
  apply RL.orB (d := 20) (dp := 22) (l' := (Sq.of [])) rfl (sK [2, 3, 6, 7] rfl)
  ·
    intro hb3 K3
    refine RL.p rfl (RL.p rfl ?_)
    exact K3 _ (.cons rfl (sK [2, 3, 6, 7] rfl))
  ·
    intro hb3 K3
    refine RL.p rfl (RL.p rfl ?_)
    exact K3 _ (.cons rfl (sK [2, 3, 6, 7] rfl))
  refine RL.nil (NQ.seq ?_)
  refine CW.cond rfl (fun hq => ?_) (fun hq => ?_)
  · have hT : T = true := hq
    subst hT
    refine CW.seq (CW.rg (RL.p rfl (RL.p rfl (RL.p rfl (RL.p rfl (RL.nil (NQ.seq (CW.ret (RQ.seq ?_)))))))))
    exact RQ.post (res2 rfl rfl rfl) (Split.none _) ⟨by simp, rfl, rfl⟩
  · have hT : T = false := hq
    subst hT
    refine CW.skip (NQ.seq (CW.seq (CW.region (ef := [0, 1]) (bk := [1]) (RL.alloc Tryz.zeroValue4 rfl rfl rfl rfl rfl ?_))))
    intro b3
    refine RL.store (vs := [_]) Tryz.sizeOf4 rfl rfl rfl rfl rfl rfl rfl rfl rfl (by repeat (first | exact Upd.here | apply Upd.there)) ?_
    refine RL.nil (NQ.seq (CW.seq (CW.seq (CW.rg (RL.loadSq Tryz.isAgg122 Tryz.sizeOf122 rfl rfl rfl rfl ?_)))))
    refine RL.makeFunc rfl rfl rfl rfl rfl (RL.nil (NQ.seq (CW.block ?_)))
    refine CW.rangeFunc (X := fun k => [cel b3 [.bool (parB z p s k)] 4, cel b2 [.int .i64 p.1, .int .i64 p.2] 139]) (Z := fun _ => []) (p := fun _ => true) hit rfl Tryz.call247 (fun a ha => ?_) (by decide) (by repeat (first | exact Pick.nil | apply Pick.take | apply Pick.leave)) (by repeat (first | exact Lend.nil | (refine Lend.inI ?_ ?_; (solve | (repeat (first | exact List.Mem.head _ | apply List.Mem.tail)))) | (refine Lend.inH ?_ ?_; (solve | (repeat (first | exact List.Mem.head _ | apply List.Mem.tail)))))) (fun l r k a w1 ha => ?_) (fun hall D => ?_) (fun k hk1 hk2 D => ?_)
    · simp only [edL, List.mem_map] at ha
      obtain ⟨_, -, rfl⟩ := ha
      rfl
    · obtain ⟨hk, rfl⟩ := edL_at ha
      have hk' := hs k hk
      refine CW.seq (CW.region (ef := [0, 1]) (bk := [1]) (RL.alloc Tryz.zeroValue139 rfl rfl rfl rfl rfl ?_))
      intro b4
      refine RL.store (vs := [_, _]) Tryz.sizeOf139 rfl rfl rfl rfl rfl rfl rfl rfl rfl (by repeat (first | exact Upd.here | apply Upd.there)) ?_
      refine RL.nil (NQ.seq (CW.region (ef := [0, 1]) (bk := [1]) (RL.alloc Tryz.zeroValue139 rfl rfl rfl rfl rfl ?_)))
      intro b5
      refine RL.store (vs := [_, _]) Tryz.sizeOf139 rfl rfl rfl rfl rfl rfl rfl rfl rfl (by repeat (first | exact Upd.here | apply Upd.there)) ?_
      refine RL.nil (NQ.rdBegin ?_)
      refine CW.block (CW.seq (CW.rg (RL.idxAAt (j := 1) Tryz.runUnderlying139 Tryz.sizeOf26 rfl rfl rfl rfl rfl rfl (by decide) ?_)))
      refine RL.loadq Tryz.isAgg26 rfl rfl rfl rfl ?_
      refine RL.idxAAt (j := 1) Tryz.runUnderlying139 Tryz.sizeOf26 rfl rfl rfl rfl rfl rfl (by decide) ?_
      refine RL.loadq Tryz.isAgg26 rfl rfl rfl rfl ?_
      refine RL.p rfl (RL.p rfl (RL.nil (NQ.seq (CW.ok [2, 3, 8, 9, 10, 11, 27, 28] rfl (CW.seq (CW.rg (RL.idxAAt (j := 1) Tryz.runUnderlying139 Tryz.sizeOf26 rfl rfl rfl rfl rfl rfl (by decide) ?_)))))))
      refine RL.loadq Tryz.isAgg26 rfl rfl rfl rfl ?_
      refine RL.idxAAt (j := 1) Tryz.runUnderlying139 Tryz.sizeOf26 rfl rfl rfl rfl rfl rfl (by decide) ?_
      refine RL.loadq Tryz.isAgg26 rfl rfl rfl rfl ?_
      refine RL.p rfl (RL.p rfl (RL.cmp rfl rfl rfl rfl rfl (neq_bool Tryz.runUnderlying4 _ _) (RL.p rfl ?_)))
      apply RL.andB (d := 41) (dp := 49) (l' := (Sq.of [])) rfl (sK [2, 8, 27, 28] rfl)
      ·
        intro hb8 K8
        refine RL.loadSq Tryz.isAgg139 Tryz.sizeOf139 rfl rfl rfl rfl ?_
        refine RL.loadSq Tryz.isAgg139 Tryz.sizeOf139 rfl rfl rfl rfl ?_
        refine RL.loadSq Tryz.isAgg139 Tryz.sizeOf139 rfl rfl rfl rfl ?_
        refine RL.callvq (hk') Tryz.call317 rfl rfl rfl rfl ?_
        refine RL.p rfl (RL.p rfl (RL.cmp rfl rfl rfl rfl rfl (eql_bool Tryz.runUnderlying4 _ _) (RL.p rfl ?_)))
        exact K8 _ (.cons rfl (sK [2, 8, 27, 28] rfl))
      ·
        intro hb8 K8
        refine RL.p rfl (RL.p rfl (RL.p rfl (RL.p rfl (RL.p rfl (RL.p rfl (RL.p rfl (RL.p rfl ?_)))))))
        exact K8 _ (.cons rfl (sK [2, 8, 27, 28] rfl))
      refine RL.nil (NQ.seq ?_)
      refine CW.cond rfl (fun hf => ?_) (fun hf => ?_)
      · have hf : flipB z p s k = true := by revert hf; unfold flipB; cases decide ((z.L.getD k (0, 0)).2 > p.2) <;> cases decide ((z.L.getD ((k + 1) % z.L.length) (0, 0)).2 > p.2) <;> simp
        have e : parB z p s (k + 1) = !parB z p s k := by rw [parB, if_pos hf]
        rw [e]
        refine CW.region (ef := [2]) (bk := [2]) (RL.loadq Tryz.isAgg4 rfl rfl rfl rfl ?_)
        refine RL.p rfl (RL.store (vs := [_]) Tryz.sizeOf4 rfl rfl rfl rfl rfl rfl rfl rfl rfl (by repeat (first | exact Upd.here | apply Upd.there)) ?_)
        refine RL.nil (NQ.block ?_)
        exact NQ.rdEnd (by repeat (first | exact Rea.nil | (apply Rea.cons; (solve | (repeat (first | exact Del.here | apply Del.there)))))) ⟨rfl, rfl⟩
      · have hf : ¬ flipB z p s k = true := by revert hf; unfold flipB; cases decide ((z.L.getD k (0, 0)).2 > p.2) <;> cases decide ((z.L.getD ((k + 1) % z.L.length) (0, 0)).2 > p.2) <;> simp
        have e : parB z p s (k + 1) = parB z p s k := by rw [parB, if_neg hf]
        rw [e]
        refine CW.skip (NQ.block ?_)
        exact NQ.rdEnd (by repeat (first | exact Rea.nil | (apply Rea.cons; (solve | (repeat (first | exact Del.here | apply Del.there)))))) ⟨rfl, rfl⟩
    · have hel : (edL z.L).length = z.L.length := by simp [edL]
      rw [hel]
      refine NQ.block (NQ.seq (CW.ok [7, 8] rfl (CW.seq (CW.rg (RL.loadq Tryz.isAgg4 rfl rfl rfl rfl ?_)))))
      refine RL.p rfl (RL.p rfl (RL.p rfl (RL.nil (NQ.seq (CW.ret (RQ.marks ?_))))))
      exact RQ.post (res2 rfl rfl rfl) (Split.none _) ⟨by simp, rfl, rfl⟩
    · cases hk2
end Go.Proofs.YthgjgeapfndeeaaGreatDoor

/-
  Zones: the hooks of fence's functions that go over a zone's edges.
-/
namespace Go.PK
/-- A call of things without blocks, carried out with no memory at all: a contract. -/
theorem spc_call {P : Program} {call : CallT} (hc : CallOk P call) {f : FuncId} {args : List AV} {u : Value} {h' : Heap} {n' : Nat} (he : call .e .e 0 f args = some (.val u, h', n')) (hwf : ∀ x ∈ args, x.idsIn .e = true) : Spc P f (args.map (AV.dec fun _ => (0, 0))).toArray [] [] (Is u) := fun w hw => by
  have F := hc _ _ _ _ _ _ _ _ he
  have hge : ∀ k, (Tr.e : Heap).get k = none := fun k => rfl
  have hm : Mem (fun _ => (0, 0)) (.e : Heap) w := ⟨(fun k c h => by rw [hge] at h; cases h), (fun k c h => by rw [hge] at h; cases h), (fun k c k' c' h => by rw [hge] at h; cases h)⟩
  refine (F.call (fun _ _ h => h) _ w hm (fun x hx => AV.idsIn_wf (hwf x hx))).mono ?_
  rintro e w' ⟨u', rfl, ⟨θ', A⟩, -⟩
  have hd := A.d
  exact ⟨u', [], [], rfl, ⟨by rw [hd]; rfl, rfl, rfl⟩, A.k.none, ⟨(fun _ h => by cases h), (fun _ h => by cases h), List.nodup_nil, (fun _ h => by cases h)⟩, (fun _ h => by cases h), (fun _ h => by cases h)⟩
/-- Answers for 0, 1, .. -/
noncomputable def ansN {α : Type} (g : Nat → Option α) (n : Nat) : Option (List α) := Nat.rec (motive := fun _ => Option (List α)) (some []) (fun k ih => ob ih fun l => ob (g k) fun b => some (l ++ [b])) n
theorem ansN_ok {α : Type} {g : Nat → Option α} (d : α) : ∀ {n : Nat} {l : List α}, ansN g n = some l → l.length = n ∧ ∀ k, k < n → g k = some (l.getD k d)
  | 0, l, h => by cases h; exact ⟨rfl, fun k hk => by omega⟩
  | n + 1, l, h => by
    obtain ⟨m, h1, h2⟩ := ob_inv (show ob (ansN g n) _ = some l from h)
    obtain ⟨b, h3, h4⟩ := ob_inv h2
    cases h4
    obtain ⟨q1, q2⟩ := ansN_ok d h1
    refine ⟨by rw [List.length_append, q1]; rfl, fun k hk => ?_⟩
    by_cases e : k < n
    · rw [q2 k e, List.getD_eq_getElem?_getD, List.getD_eq_getElem?_getD, List.getElem?_append_left (by omega)]
    · have : k = n := by omega
      subst this
      rw [h3, List.getD_eq_getElem?_getD, List.getElem?_append_right (by omega), q1]
      simp
end Go.PK
namespace Go.Proofs.YthgjgeapfndeeaaGreatDoor
open Go.PK
noncomputable def ptsF : List AV → Option (List Pt)
  | [] => some []
  | a :: b :: r => onI a fun q x => onI b fun q' y => bo (Nat.beq (kN q) 6 && Nat.beq (kN q') 6) (ob (ptsF r) fun l => some ((x, y) :: l)) none
  | _ => none
theorem ptsF_ok (θ : Vl) : ∀ {l : List AV} {L : List Pt}, ptsF l = some L → l.map (AV.dec θ) = L.flatMap Pt.cells
  | [], L, h => by cases h; rfl
  | [_], L, h => by cases h
  | a :: b :: r, L, h => by
    obtain ⟨q, x, rfl, h1⟩ := onI_inv (show onI a _ = some L from h)
    obtain ⟨q', y, rfl, h2⟩ := onI_inv h1
    obtain ⟨h3, h4⟩ := bo_inv h2
    obtain ⟨l, h5, h6⟩ := ob_inv h4
    cases h6
    rw [Bool.and_eq_true] at h3
    have e1 : q = .i64 := kN_inj (k' := .i64) h3.1
    have e2 : q' = .i64 := kN_inj (k' := .i64) h3.2
    subst e1 e2
    rw [List.map_cons, List.map_cons, ptsF_ok θ h5]
    rfl
noncomputable def zoneF (a : AV) (h : Heap) : Option Zn := match a with
  | .agg [.val (.bool kp), .sl id 0 n k c, .val (.int .i64 fl), .val (.int .i64 rf)] => ob (rowC 2 (.sl id 0 n k c) h) fun q => ob (ptsF q.2) fun L => bo (Nat.blt n 1000000) (some ⟨kp, L, fl, rf⟩) none
  | _ => none
theorem zoneF_ok {a : AV} {h : Heap} {z : Zn} {θ : Vl} {w : World} (hm : Mem θ h w) (hz : zoneF a h = some z) : ∃ ob cap, a.dec θ = .agg (znC z.keep (slO ob z.L.length cap) z.fl z.rf).toArray ∧ (sls (ob.map fun b => ⟨b, 0, none⟩) 2 z.L.length (z.L.flatMap Pt.cells)).A w ∧ z.L.length ≤ 1000000 := by
  unfold zoneF at hz
  split at hz
  · next kp id n k c fl rf =>
    obtain ⟨⟨m, xs⟩, h1, h2⟩ := ob_inv hz
    obtain ⟨L, h3, h4⟩ := ob_inv h2
    obtain ⟨h5, h6⟩ := bo_inv h4
    cases h6
    obtain ⟨p, cc, e1, e2, e3⟩ := row_sls hm (rowC_ok h1) (by decide)
    have e1 : Value.slice (some ⟨(θ id).1, 0, none⟩) n (bif k then c else (θ id).2 - c) = .slice p m cc := e1
    injection e1 with e4 e5 e6
    subst e4 e5 e6
    rw [ptsF_ok θ h3] at e3
    have hl : L.length = n := by
      have h7 := congrArg List.length (ptsF_ok θ h3)
      rw [List.length_map] at h7
      have h8 : ∀ L : List Pt, (L.flatMap Pt.cells).length = 2 * L.length := fun L => by
        induction L with
        | nil => rfl
        | cons x r ih => rw [List.flatMap_cons, List.length_append, ih]; simp [Pt.cells]; omega
      rw [h8, e2] at h7
      omega
    have hn : n < 1000000 := Nat.le_of_ble_eq_true h5
    refine ⟨some (θ id).1, (bif k then c else (θ id).2 - c), ?_, ?_, (by show L.length ≤ 1000000; omega)⟩
    · show _ = Value.agg (znC kp (slO (some (θ id).1) L.length (bif k then c else (θ id).2 - c)) fl rf).toArray
      rw [hl]
      simp [AV.dec, AV.decL, znC]
    · show (sls (some ⟨(θ id).1, 0, none⟩) 2 L.length (L.flatMap Pt.cells)).A w
      rw [hl]; exact e3
  · cases hz
noncomputable def hkFCheck : Hk := fun _ h nx a => match a with
  | [z] => ob (zoneF z h) fun z => frc (.val (.int .i64 z.err)) fun v => some (v, h, nx)
  | _ => none
theorem hkFCheck_ok {f : Nat} (hO : okF Tryz.prog f = true) (hS : ∀ (z : Zn) (ob : Option Nat) (cap n : Nat), z.L.length = n → n ≤ 1000000 → Spc Tryz.prog f #[.agg (znC z.keep (slO ob n cap) z.fl z.rf).toArray] [sls (ob.map fun b => ⟨b, 0, none⟩) 2 n (z.L.flatMap Pt.cells)] [] (Is (.int .i64 z.err)))
    {hb h h' : Heap} {nx nx' : Nat} {args : List AV} {v : AV} (he : hkFCheck hb h nx args = some (v, h', nx')) : FOk Tryz.prog f args h hb v h' := by
  unfold hkFCheck at he
  split at he
  · next a =>
    obtain ⟨z, h1, h2⟩ := ob_inv he
    rw [frc_eq] at h2
    cases h2
    refine .quiet hO (fun A => trivial) fun θ w hm hwa => ?_
    obtain ⟨ob, cap, e1, e2, e3⟩ := zoneF_ok hm h1
    refine ⟨_, fun x hx => (by rw [List.mem_singleton.1 hx]; exact e2), ?_⟩
    rw [List.map_cons, List.map_nil, e1]
    exact hS z ob cap _ rfl e3
  · cases he
end Go.Proofs.YthgjgeapfndeeaaGreatDoor

/-
  Zones: the hooks of fence.Touches and fence.Within.
-/
namespace Go.Proofs.YthgjgeapfndeeaaGreatDoor
open Go.PK
def ptV (p : Pt) : AV := .agg [.val (.int .i64 p.1), .val (.int .i64 p.2)]
def tArgs (z : Zn) (p : Pt) (r : Int) (k : Nat) : List AV := [.agg [.val (.int .i64 p.1), .val (.int .i64 p.2), .val (.int .i64 r)], ptV (z.L.getD k (0, 0)), ptV (z.L.getD ((k + 1) % z.L.length) (0, 0))]
def sArgs (z : Zn) (p : Pt) (k : Nat) : List AV := [ptV (z.L.getD k (0, 0)), ptV (z.L.getD ((k + 1) % z.L.length) (0, 0)), ptV p]
noncomputable def tAns (call : CallT) (f : Nat) (z : Zn) (p : Pt) (r : Int) (k : Nat) : Option Bool := ob (call .e .e 0 f (tArgs z p r k)) fun q => onB q.1 some
noncomputable def sAns (call : CallT) (f : Nat) (z : Zn) (p : Pt) (k : Nat) : Option Int := ob (call .e .e 0 f (sArgs z p k)) fun q => onI q.1 fun t n => bo (Nat.beq (kN t) 6) (some n) none
theorem tAns_ok {call : CallT} {f : Nat} {z : Zn} {p : Pt} {r : Int} {k : Nat} {b : Bool} (hc : CallOk Tryz.prog call) (h : tAns call f z p r k = some b) : Spc Tryz.prog f #[.agg #[.int .i64 p.1, .int .i64 p.2, .int .i64 r], ptA z k, ptE z k] [] [] (Is (.bool b)) := by
  obtain ⟨⟨v, h', n'⟩, h1, h2⟩ := ob_inv h
  obtain ⟨b', rfl, h3⟩ := onB_inv (show onB v some = some b from h2)
  cases h3
  have S := spc_call hc h1 (fun x hx => by
    simp only [tArgs, List.mem_cons, List.not_mem_nil, or_false] at hx
    rcases hx with rfl | rfl | rfl <;> rfl)
  have e : ((tArgs z p r k).map (AV.dec fun _ => (0, 0))).toArray = #[.agg #[.int .i64 p.1, .int .i64 p.2, .int .i64 r], ptA z k, ptE z k] := by simp [tArgs, ptV, AV.dec, AV.decL, Pt.cells]
  rw [e] at S
  exact S
theorem sAns_ok {call : CallT} {f : Nat} {z : Zn} {p : Pt} {k : Nat} {n : Int} (hc : CallOk Tryz.prog call) (h : sAns call f z p k = some n) : Spc Tryz.prog f #[ptA z k, ptE z k, .agg #[.int .i64 p.1, .int .i64 p.2]] [] [] (Is (.int .i64 n)) := by
  obtain ⟨⟨v, h', n'⟩, h1, h2⟩ := ob_inv h
  obtain ⟨t, m, rfl, h3⟩ := onI_inv (show onI v _ = some n from h2)
  obtain ⟨h4, h5⟩ := bo_inv h3
  cases h5
  have e : t = .i64 := kN_inj (k' := .i64) h4
  subst e
  have S := spc_call hc h1 (fun x hx => by
    simp only [sArgs, List.mem_cons, List.not_mem_nil, or_false] at hx
    rcases hx with rfl | rfl | rfl <;> rfl)
  have e : ((sArgs z p k).map (AV.dec fun _ => (0, 0))).toArray = #[ptA z k, ptE z k, .agg #[.int .i64 p.1, .int .i64 p.2]] := by simp [sArgs, ptV, AV.dec, AV.decL, Pt.cells]
  rw [e] at S
  exact S
noncomputable def hkTouches (ft : Nat) : Cl FT := ⟨fun call _ h nx a => match a with
  | [z, .agg [.val (.int .i64 px), .val (.int .i64 py)], .val (.int .i64 r)] => ob (zoneF z h) fun z => bo (fmayB z (px, py) r) (ob (ansN (tAns call ft z (px, py) r) z.L.length) fun l => frcB (fun b => some (.tup [.val (.bool b), .val (.int .i64 0)], h, nx)) ((List.range z.L.length).any fun k => l.getD k false)) none
  | _ => none⟩
noncomputable def hkWithin (ft fs : Nat) : Cl FT := ⟨fun call _ h nx a => match a with
  | [z, .agg [.val (.int .i64 px), .val (.int .i64 py)]] => ob (zoneF z h) fun z => bo (fmayB z (px, py) 0) (ob (ansN (tAns call ft z (px, py) 0) z.L.length) fun l => ob (ansN (sAns call fs z (px, py)) z.L.length) fun m => frcB (fun b => some (.tup [.val (.bool b), .val (.int .i64 0)], h, nx)) (((List.range z.L.length).any fun k => l.getD k false) || parB z (px, py) (fun k => m.getD k 0) z.L.length)) none
  | _ => none⟩
theorem hkTouches_ok (hO : okF Tryz.prog 218 = true) : HkOk Tryz.prog 218 (hkTouches 316) := fun call hc hb h nx args v h' nx' he => by
  unfold hkTouches at he
  simp only at he
  split at he
  · next a px py r =>
    obtain ⟨z, h1, h2⟩ := ob_inv he
    obtain ⟨h3, h4⟩ := bo_inv h2
    obtain ⟨l, h5, h6⟩ := ob_inv h4
    rw [frcB_eq] at h6
    cases h6
    obtain ⟨-, q2⟩ := ansN_ok false h5
    refine .quiet hO (fun A => ⟨trivial, trivial, trivial⟩) fun θ w hm hwa => ?_
    obtain ⟨ob, cap, e1, e2, e3⟩ := zoneF_ok hm h1
    refine ⟨_, fun x hx => (by rw [List.mem_singleton.1 hx]; exact e2), ?_⟩
    have S := touches_any z ob cap _ rfl e3 (px, py) r h3 (fun k => l.getD k false) (fun k hk => tAns_ok hc (q2 k hk))
    simp only [List.map_cons, List.map_nil, e1]
    exact S
  · cases he
theorem hkWithin_ok (hO : okF Tryz.prog 219 = true) : HkOk Tryz.prog 219 (hkWithin 316 317) := fun call hc hb h nx args v h' nx' he => by
  unfold hkWithin at he
  simp only at he
  split at he
  · next a px py =>
    obtain ⟨z, h1, h2⟩ := ob_inv he
    obtain ⟨h3, h4⟩ := bo_inv h2
    obtain ⟨l, h5, h6⟩ := ob_inv h4
    obtain ⟨m, h7, h8⟩ := ob_inv h6
    rw [frcB_eq] at h8
    cases h8
    obtain ⟨-, q2⟩ := ansN_ok false h5
    obtain ⟨-, q3⟩ := ansN_ok 0 h7
    refine .quiet hO (fun A => ⟨trivial, trivial, trivial⟩) fun θ w hm hwa => ?_
    obtain ⟨ob, cap, e1, e2, e3⟩ := zoneF_ok hm h1
    refine ⟨_, fun x hx => (by rw [List.mem_singleton.1 hx]; exact e2), ?_⟩
    have S := within_any z ob cap _ rfl e3 (px, py) h3 (fun k => l.getD k false) (fun k => m.getD k 0) (fun k hk => tAns_ok hc (q2 k hk)) (fun k hk => sAns_ok hc (q3 k hk))
    simp only [List.map_cons, List.map_nil, e1]
    exact S
  · cases he
end Go.Proofs.YthgjgeapfndeeaaGreatDoor
