import Derived.Test.YtggmnhogmjglmaaC7
import Derived.Test.YtggmnhogmjglmaaCVoid
import Derived.Test.YtggmnhogmjglmaaAmong
namespace Go.Proofs.Ytggmnhogmjglmaa
open Go.PK
structure Act23 where
  d : Int
  s : Int
  a : Int
  r : Int
def Act23.cells (x : Act23) : List Value := [.int .i64 x.d, .int .i64 x.s, .int .i64 x.a, .int .i64 x.r]
def Act23.Ok (x : Act23) : Prop := -9223372036854775808 ≤ x.r ∧ x.r ≤ 9223372036854775807
set_option maxRecDepth 100000
noncomputable def rAct23 : Rdr Try.prog 81 Act23 :=
  Rdr.struct (fs := [Field.mk "Do" 3 0 false "" "" 0, Field.mk "At" 79 1 false "" "" 8, Field.mk "R" 70 3 false "" "" 24].toArray) (tot := 4) (α := Int × (Int × Int) × Int × Unit)
    (by kernel_rfl) (by kernel_rfl)
    (.cons (k := 1) rInt rfl (by kernel_rfl) (by decide) (.cons (k := 2) rPl rfl (by kernel_rfl) (by decide) (.cons (k := 1) rFix rfl (by kernel_rfl) (by decide) .nil)))
    Act23.cells (fun _ => []) Act23.Ok
    (fun ⟨d, p, r, _⟩ h => by
      obtain ⟨h1, h2, h3, -⟩ := h
      exact ⟨⟨d, p.1, p.2, r⟩, rfl, wfk_bounds h3, by simp [Flds.cons, rPl, Rdr.struct]⟩)
    (fun _ _ => rfl)
noncomputable def rActs23 : Rdr Try.prog 71 (Sl Act23) := rAct23.slice 4 (by kernel_rfl) (by kernel_rfl) (by kernel_rfl) (by decide) (List.flatMap Act23.cells) (fun _ => rfl)
theorem act23_rds {I : List It} {L : List Act23} {a : Addr} {i : Nat} {x : Act23} (hm : sls (some a) 4 L.length (L.flatMap Act23.cells) ∈ I) (hx : L[i]? = some x) : RdsI I (a.add (i * 4)) [.int .i64 x.d, .int .i64 x.s, .int .i64 x.a, .int .i64 x.r] :=
  ⟨fun _ => (Rds.sls hm).part (fun q u hu => by
    have hlt : q < 4 := (List.getElem?_eq_some_iff.1 hu).1
    rw [get_flat (f := Act23.cells) (n := 4) (fun _ _ => rfl) hx hlt]; exact hu)⟩
theorem new_bad (slack most : Int) (h : ¬ (0 ≤ slack ∧ 0 < most)) : Spc Try.prog 26 #[.int .i64 slack, .int .i64 most] [] [] (Is (.tuple #[.pointer none, .int .i64 2])) := by
  refine Spc.enter Try.func26 rfl rfl rfl (fun w0 hw0 => ?_)
  refine CW.seq ?_
  refine CW.region (ef := []) (bk := []) ?_
  refine RL.assign rfl rfl rfl rfl ?_
  refine RL.assign rfl rfl rfl rfl ?_
  refine RL.nil ?_
  refine NQ.seq ?_
  refine CW.seq ?_
  refine CW.seq ?_
  refine CW.region (ef := []) (bk := []) ?_
  refine RL.move rfl rfl rfl rfl ?_
  refine RL.bin rfl rfl rfl rfl rfl rfl ?_
  refine RL.move rfl rfl rfl rfl ?_
  apply RL.orB (d := 8) (dp := 11) (l' := (Sq.of [])) rfl (.cons (k := 0) rfl (.cons (k := 1) rfl (.cons (k := 4) rfl (.cons (k := 5) rfl .nil))))
  ·
    intro hb3 K3
    refine RL.move rfl rfl rfl rfl ?_
    refine RL.bin rfl rfl rfl rfl rfl rfl ?_
    refine RL.pickF rfl rfl rfl rfl rfl ?_
    exact K3 _ (.cons rfl (.cons (k := 0) rfl (.cons (k := 1) rfl (.cons (k := 4) rfl (.cons (k := 5) rfl .nil)))))
  ·
    intro hb3 K3
    refine RL.skip rfl rfl rfl rfl ?_
    refine RL.skip rfl rfl rfl rfl ?_
    refine RL.pickT rfl rfl rfl rfl rfl ?_
    exact K3 _ (.cons rfl (.cons (k := 0) rfl (.cons (k := 1) rfl (.cons (k := 4) rfl (.cons (k := 5) rfl .nil)))))
  refine RL.nil ?_
  refine NQ.seq ?_
  refine CW.condT rfl (by simp; omega) ?_
  refine CW.seq ?_
  refine CW.region (ef := []) (bk := []) ?_
  refine RL.assign rfl rfl rfl rfl ?_
  refine RL.assign rfl rfl rfl rfl ?_
  refine RL.nil ?_
  refine NQ.seq ?_
  refine CW.ret ?_
  refine RQ.seq ?_
  exact RQ.post (res2 rfl rfl rfl) (Split.none _) ⟨rfl, rfl, rfl⟩
theorem step_bad (b r : Nat) (slack most s a x : Int) (h : mayP s a = false) : Spc Try.prog 30 #[.pointer (some ⟨b, 0, none⟩), .agg #[.int .i64 s, .int .i64 a], .int .i64 x] [mon b r slack most] [] (Is (.tuple #[.bool false, .int .i64 2])) := by
  have h' : ¬ (0 ≤ s ∧ s < 8 ∧ 0 ≤ a ∧ a < 3) := by simpa [mayP] using h
  refine Spc.enter Try.func30 rfl rfl rfl (fun w0 hw0 => ?_)
  refine CW.seq ?_
  refine CW.region (ef := [0]) (bk := []) ?_
  refine RL.box rfl rfl rfl rfl rfl rfl ?_
  intro b1
  refine RL.assign rfl rfl rfl rfl ?_
  refine RL.assign rfl rfl rfl rfl ?_
  refine RL.nil ?_
  refine NQ.seq ?_
  refine CW.seq ?_
  refine CW.block ?_
  refine CW.seq ?_
  refine CW.region (ef := []) (bk := []) ?_
  refine RL.move rfl rfl rfl rfl ?_
  refine RL.callvq (is_yes _ _ _ _) Try.call41 rfl rfl rfl rfl ?_
  refine RL.not rfl rfl rfl rfl ?_
  refine RL.assign rfl rfl rfl rfl ?_
  refine RL.nil ?_
  refine NQ.seq ?_
  refine CW.condF rfl (rfl) ?_
  refine CW.seq ?_
  refine CW.region (ef := []) (bk := []) ?_
  refine RL.fieldAddr fa_79_0 rfl rfl rfl rfl ?_
  refine RL.loadq Try.isAgg3 rfl rfl rfl rfl ?_
  refine RL.callvq (source_any _) Try.call42 rfl rfl rfl rfl ?_
  refine RL.not rfl rfl rfl rfl ?_
  refine RL.move rfl rfl rfl rfl ?_
  apply RL.orB (d := 22) (dp := 26) (l' := (Sq.of [9, 10, 11, 12, 13, 14])) rfl (.cons (k := 0) rfl (.cons (k := 2) rfl (.cons (k := 4) rfl (.cons (k := 6) rfl (.cons (k := 7) rfl .nil)))))
  ·
    intro hb5 K5
    refine RL.fieldAddr fa_79_1 rfl rfl rfl rfl ?_
    refine RL.loadq Try.isAgg3 rfl rfl rfl rfl ?_
    refine RL.bin rfl rfl rfl rfl rfl rfl ?_
    refine RL.pickF rfl rfl rfl rfl rfl ?_
    exact K5 _ (.cons rfl (.cons (k := 0) rfl (.cons (k := 2) rfl (.cons (k := 4) rfl (.cons (k := 6) rfl (.cons (k := 7) rfl .nil))))))
  ·
    intro hb5 K5
    refine RL.skip rfl rfl rfl rfl ?_
    refine RL.skip rfl rfl rfl rfl ?_
    refine RL.skip rfl rfl rfl rfl ?_
    refine RL.pickT rfl rfl rfl rfl rfl ?_
    exact K5 _ (.cons rfl (.cons (k := 0) rfl (.cons (k := 2) rfl (.cons (k := 4) rfl (.cons (k := 6) rfl (.cons (k := 7) rfl .nil))))))
  refine RL.move rfl rfl rfl rfl ?_
  apply RL.orB (d := 27) (dp := 31) (l' := (Sq.of [14])) rfl (.cons (k := 0) rfl (.cons (k := 2) rfl (.cons (k := 4) rfl (.cons (k := 6) rfl (.cons (k := 7) rfl .nil)))))
  ·
    intro hb10 K10
    refine RL.fieldAddr fa_79_1 rfl rfl rfl rfl ?_
    refine RL.loadq Try.isAgg3 rfl rfl rfl rfl ?_
    refine RL.bin rfl rfl rfl rfl rfl rfl ?_
    refine RL.pickF rfl rfl rfl rfl rfl ?_
    exact K10 _ (.cons rfl (.cons (k := 0) rfl (.cons (k := 2) rfl (.cons (k := 4) rfl (.cons (k := 6) rfl (.cons (k := 7) rfl .nil))))))
  ·
    intro hb10 K10
    refine RL.skip rfl rfl rfl rfl ?_
    refine RL.skip rfl rfl rfl rfl ?_
    refine RL.skip rfl rfl rfl rfl ?_
    refine RL.pickT rfl rfl rfl rfl rfl ?_
    exact K10 _ (.cons rfl (.cons (k := 0) rfl (.cons (k := 2) rfl (.cons (k := 4) rfl (.cons (k := 6) rfl (.cons (k := 7) rfl .nil))))))
  refine RL.assign rfl rfl rfl rfl ?_
  refine RL.nil ?_
  refine NQ.seq ?_
  refine CW.condT rfl (by simp; omega) ?_
  refine CW.seq ?_
  refine CW.region (ef := []) (bk := []) ?_
  refine RL.assign rfl rfl rfl rfl ?_
  refine RL.assign rfl rfl rfl rfl ?_
  refine RL.nil ?_
  refine NQ.seq ?_
  refine CW.ret ?_
  refine RQ.block ?_
  refine RQ.seq ?_
  exact RQ.post (res2 rfl rfl rfl) (Split.none _) ⟨rfl, rfl, rfl⟩
structure CG where
  i : Nat
  c : Held
  U : Nat → Int
  D : Nat → Int
structure CG.ok (n : Nat) (z : CG) : Prop where
  i : z.i ≤ n
  a : CAl z.c z.U z.D
  l : z.c.length ≤ z.i
  b : z.i ≤ 60
abbrev CGI (b r y : Nat) (slack most : Int) (c : Held) (U D : Nat → Int) : List It := [mon b r slack most, sumsOf r c, rmon y slack most U D]
theorem upd_len (p v : Int × Int) (c : Held) : (upd p v c).length ≤ c.length + 1 := by
  rw [upd]; split
  · have := del_len p c; omega
  · exact put_len p v c
theorem noS_len (n : Int) (c : Held) : (noS n c).length ≤ c.length := List.length_filter_le _ _
theorem sums_al (b r : Nat) (slack most : Int) {c : Held} {U D : Nat → Int} (h : CAl c U D) {s a : Nat} (hs : s < 8) (ha : a < 3) :
    Spc Try.prog 32 #[.pointer (some ⟨b, 0, none⟩), .agg #[.int .i64 (s : Int), .int .i64 (a : Int)]] [mon b r slack most, sumsOf r c] [] (Is (.tuple #[.int .i64 (U (3 * s + a)), .int .i64 (D (3 * s + a))])) := by
  have := sums_ok b r slack most s a c
  rw [← kp_eq ha, h.at_ _ (by omega)] at this
  rw [kp_eq ha] at this
  exact this
theorem step_al (b r : Nat) (slack most x : Int) {c : Held} {U D : Nat → Int} (h : CAl c U D) {s a : Nat} (hs : s < 8) (ha : a < 3) (hsl : isMax slack) (hm : 0 < most) (hx : -9223372036854775808 ≤ x ∧ x ≤ 9223372036854775807) :
    Spc Try.prog 30 #[.pointer (some ⟨b, 0, none⟩), .agg #[.int .i64 (s : Int), .int .i64 (a : Int)], .int .i64 x] [] [mon b r slack most, sumsOf r c]
    (fun v I' H' => v = .tuple #[.bool (decide (max (nextP slack x (U (3 * s + a), D (3 * s + a))).1 (nextP slack x (U (3 * s + a), D (3 * s + a))).2 > most)), .int .i64 0] ∧ I' = [] ∧
      H' = [mon b r slack most, sumsOf r (upd ((s : Int), (a : Int)) (nextP slack x (U (3 * s + a), D (3 * s + a))) c)]) := by
  have := step_ok b r slack most s a x c (by omega) (by omega) hsl (by omega) hx h.cb
  have e : at0 ((s : Int), (a : Int)) c = (U (3 * s + a), D (3 * s + a)) := by rw [← kp_eq ha]; exact h.at_ _ (by omega)
  rw [e] at this
  exact this
theorem own_rd {I H : List It} {b cap n k q : Nat} {T : TypeId} {R : List (Int × Int)} {v : Value} (hm : own (some b) cap T 2 n (R.flatMap plc) ∈ H) (hv : (R.flatMap plc)[k * 2 + q]? = some v) : Rd I H ⟨b, 0 + k * 2 + q, none⟩ v := by
  have := (Rds.own (I := I) hm).rd hv
  rwa [add_none, ← Nat.add_assoc] at this
theorem own_none {cap sz n : Nat} {e : TypeId} {xs : List Value} {w : World} (h : (own none cap e sz n xs).A w) : n = 0 := h.2.1
theorem pls_get {R : List (Int × Int)} {k : Nat} {p : Int × Int} (h : R[k]? = some p) : (R.flatMap plc)[k * 2 + 0]? = some (.int .i64 p.1) ∧ (R.flatMap plc)[k * 2 + 1]? = some (.int .i64 p.2) := by
  rw [get_flat (f := plc) (n := 2) (fun _ _ => rfl) h (by decide), get_flat (f := plc) (n := 2) (fun _ _ => rfl) h (by decide)]
  exact ⟨rfl, rfl⟩
theorem cplays (p : Option Addr) (n : Nat) (L : List Act23) (slack most : Int) (hL : ∀ x ∈ L, x.Ok) (hc : L.length ≤ n) (hslb : slack ≤ 9223372036854775807) (hmb : most ≤ 9223372036854775807) :
    Spc Try.prog 6 #[.int .i64 slack, .int .i64 most, .slice p L.length n] [sls p 4 L.length (L.flatMap Act23.cells)] [] (Is (.bool true)) := by
  by_cases hok : 0 ≤ slack ∧ 0 < most
  · obtain ⟨h1, h2⟩ := hok
    have hsl : isMax slack := ⟨h1, hslb⟩
    refine Spc.enter Try.func6 rfl rfl rfl (fun w0 hw0 => ?_)
    refine CW.seq ?_
    refine CW.region (ef := []) (bk := []) ?_
    refine RL.assign rfl rfl rfl rfl ?_
    refine RL.nil ?_
    refine NQ.seq ?_
    refine CW.seq ?_
    refine CW.region (ef := [2]) (bk := []) ?_
    refine RL.move rfl rfl rfl rfl ?_
    refine RL.move rfl rfl rfl rfl ?_
    refine RL.callq (new_yes slack most h1 h2) Try.call26 rfl rfl rfl rfl rfl (.inl rfl) ?_
    rintro _ _ _ ⟨b, r, rfl, rfl, rfl⟩
    refine RL.move rfl rfl rfl rfl ?_
    refine RL.extract rfl rfl rfl rfl rfl ?_
    refine RL.extract rfl rfl rfl rfl rfl ?_
    refine RL.assign rfl rfl rfl rfl ?_
    refine RL.assign rfl rfl rfl rfl ?_
    refine RL.nil ?_
    refine NQ.seq ?_
    refine CW.only (.cons (k := 0) rfl (.cons (k := 1) rfl (.cons (k := 2) rfl (.cons (k := 7) rfl (.cons (k := 8) rfl .nil))))) ?_
    refine CW.seq ?_
    refine CW.region (ef := [2]) (bk := []) ?_
    refine RL.move rfl rfl rfl rfl ?_
    refine RL.move rfl rfl rfl rfl ?_
    refine RL.callq (rnew_yes slack most h1 h2) Try.call27 rfl rfl rfl rfl rfl (.inl rfl) ?_
    rintro _ _ _ ⟨y, rfl, rfl, rfl⟩
    refine RL.move rfl rfl rfl rfl ?_
    refine RL.extract rfl rfl rfl rfl rfl ?_
    refine RL.extract rfl rfl rfl rfl rfl ?_
    refine RL.assign rfl rfl rfl rfl ?_
    refine RL.assign rfl rfl rfl rfl ?_
    refine RL.nil ?_
    refine NQ.seq ?_
    refine CW.only (.cons (k := 2) rfl (.cons (k := 7) rfl (.cons (k := 8) rfl (.cons (k := 9) rfl (.cons (k := 10) rfl .nil))))) ?_
    refine CW.seq ?_
    refine CW.seq ?_
    refine CW.region (ef := []) (bk := []) ?_
    refine RL.move rfl rfl rfl rfl ?_
    refine RL.move rfl rfl rfl rfl ?_
    refine RL.bin rfl rfl rfl rfl rfl rfl ?_
    refine RL.move rfl rfl rfl rfl ?_
    apply RL.orB (d := 40) (dp := 46) (l' := (Sq.of [])) rfl (.cons (k := 2) rfl (.cons (k := 7) rfl (.cons (k := 9) rfl .nil)))
    ·
      intro hb4 K4
      refine RL.move rfl rfl rfl rfl ?_
      refine RL.cmp rfl rfl rfl rfl rfl (eql_ptr Try.runUnderlying72 _) ?_
      refine RL.move rfl rfl rfl rfl ?_
      refine RL.cmp rfl rfl rfl rfl rfl (eql_ptr Try.runUnderlying75 _) ?_
      refine RL.cmp rfl rfl rfl rfl rfl (neq_bool Try.runUnderlying4 _ _) ?_
      refine RL.pickF rfl rfl rfl rfl rfl ?_
      exact K4 _ (.cons rfl (.cons (k := 2) rfl (.cons (k := 7) rfl (.cons (k := 9) rfl .nil))))
    ·
      intro hb4 K4
      refine RL.skip rfl rfl rfl rfl ?_
      refine RL.skip rfl rfl rfl rfl ?_
      refine RL.skip rfl rfl rfl rfl ?_
      refine RL.skip rfl rfl rfl rfl ?_
      refine RL.skip rfl rfl rfl rfl ?_
      refine RL.pickT rfl rfl rfl rfl rfl ?_
      exact K4 _ (.cons rfl (.cons (k := 2) rfl (.cons (k := 7) rfl (.cons (k := 9) rfl .nil))))
    refine RL.nil ?_
    refine NQ.seq ?_
    refine CW.condF rfl ((by simp)) ?_
    refine CW.skip ?_
    refine NQ.seq ?_
    refine CW.seq ?_
    refine CW.seq ?_
    refine CW.region (ef := []) (bk := []) ?_
    refine RL.assign rfl rfl rfl rfl ?_
    refine RL.nil ?_
    refine NQ.seq ?_
    refine CW.block ?_
    refine CW.loop (γ := CG) (CG.ok L.length) (fun z => [(2, .slice p L.length n), (7, .pointer (some ⟨b, 0, none⟩)), (9, .pointer (some ⟨y, 0, none⟩)), (11, .int .i64 (z.i : Int))])
      (fun _ => [sls p 4 L.length (L.flatMap Act23.cells)]) (fun z => CGI b r y slack most z.c z.U z.D) (fun z => L.length - z.i) ⟨0, [], fun _ => 0, fun _ => 0⟩
      ⟨Nat.zero_le _, CAl.zero, Nat.le_refl _, by decide⟩
      (.cons rfl (.cons rfl (.cons rfl (.cons rfl .nil)))) (fun w h => h.rea (fun _ h => h) (by repeat (first | exact Rea.nil | (apply Rea.cons; (solve | (repeat (first | exact Del.here | apply Del.there))))))) ?_
    rintro ⟨i, c, U, D⟩ ⟨hi, hA, hl, hb⟩
    dsimp only at hi hA hl hb ⊢
    refine CW.fact (p := p = none → L.length = 0) (fun w hC e => sls_nil (hC.s.i _ (List.Mem.head _)) e) (fun hpa => ?_)
    refine CW.seq ?_
    refine CW.seq ?_
    refine CW.region (ef := []) (bk := []) ?_
    refine RL.move rfl rfl rfl rfl ?_
    refine RL.move rfl rfl rfl rfl ?_
    refine RL.lenS Try.runUnderlying71 rfl rfl rfl rfl ?_
    refine RL.bin rfl rfl rfl rfl rfl rfl ?_
    refine RL.move rfl rfl rfl rfl ?_
    apply RL.andB (d := 51) (dp := 54) (l' := (Sq.of [8, 9, 10, 11])) rfl (.cons (k := 2) rfl (.cons (k := 7) rfl (.cons (k := 9) rfl (.cons (k := 11) rfl .nil))))
    ·
      intro hb5 K5
      refine RL.move rfl rfl rfl rfl ?_
      refine RL.bin rfl rfl rfl rfl rfl rfl ?_
      refine RL.pickT rfl rfl rfl rfl rfl ?_
      exact K5 _ (.cons rfl (.cons (k := 2) rfl (.cons (k := 7) rfl (.cons (k := 9) rfl (.cons (k := 11) rfl .nil)))))
    ·
      intro hb5 K5
      refine RL.skip rfl rfl rfl rfl ?_
      refine RL.skip rfl rfl rfl rfl ?_
      refine RL.pickF rfl rfl rfl rfl rfl ?_
      exact K5 _ (.cons rfl (.cons (k := 2) rfl (.cons (k := 7) rfl (.cons (k := 9) rfl (.cons (k := 11) rfl .nil)))))
    refine RL.move rfl rfl rfl rfl ?_
    apply RL.andB (d := 55) (dp := 58) (l' := (Sq.of [])) rfl (.cons (k := 2) rfl (.cons (k := 7) rfl (.cons (k := 9) rfl (.cons (k := 11) rfl .nil))))
    ·
      intro hb9 K9
      refine RL.move rfl rfl rfl rfl ?_
      refine RL.cmp rfl rfl rfl rfl rfl (neq_ptr Try.runUnderlying75 _) ?_
      refine RL.pickT rfl rfl rfl rfl rfl ?_
      exact K9 _ (.cons rfl (.cons (k := 2) rfl (.cons (k := 7) rfl (.cons (k := 9) rfl (.cons (k := 11) rfl .nil)))))
    ·
      intro hb9 K9
      refine RL.skip rfl rfl rfl rfl ?_
      refine RL.skip rfl rfl rfl rfl ?_
      refine RL.pickF rfl rfl rfl rfl rfl ?_
      exact K9 _ (.cons rfl (.cons (k := 2) rfl (.cons (k := 7) rfl (.cons (k := 9) rfl (.cons (k := 11) rfl .nil)))))
    refine RL.nil ?_
    refine NQ.seq ?_
    refine CW.cond rfl (fun hlt => ?_) (fun hlt => ?_)
    ·
      obtain ⟨hlt, hlt40⟩ : i < L.length ∧ i < 60 := by simp at hlt; omega
      cases p with
      | none => exact absurd (hpa rfl) (by omega)
      | some ad =>
      have hxa := List.getElem?_eq_getElem hlt
      generalize L[i] = x at hxa
      have hma := List.mem_of_getElem? hxa
      have hx : -9223372036854775808 ≤ x.r ∧ x.r ≤ 9223372036854775807 := hL x hma
      have w9 := act23_rds (I := [sls (some ad) 4 L.length (L.flatMap Act23.cells)]) (List.Mem.head _) hxa
      refine CW.skip ?_
      refine NQ.seq ?_
      refine CW.seq ?_
      refine CW.block ?_
      refine CW.seq ?_
      refine CW.region (ef := [4, 5]) (bk := [5]) ?_
      refine RL.move rfl rfl rfl rfl ?_
      refine RL.move rfl rfl rfl rfl ?_
      first | refine RL.idxAt (j := i) Try.runUnderlying71 Try.sizeOf81 rfl rfl rfl rfl rfl rfl (hlt) ?_ | refine RL.idx (j := i) Try.runUnderlying71 Try.sizeOf81 rfl rfl rfl rfl rfl rfl (hlt) ?_
      refine RL.loadN (vs := [_, _, _, _]) Try.isAgg81 Try.sizeOf81 rfl rfl rfl rfl (by first | (apply Rds.cel; (solve | (repeat (first | exact List.Mem.head _ | apply List.Mem.tail))); exact at_spec ⟨rfl, rfl, rfl, rfl, trivial⟩) | (apply Rds.celI; (solve | (repeat (first | exact List.Mem.head _ | apply List.Mem.tail))); exact at_spec ⟨rfl, rfl, rfl, rfl, trivial⟩) | assumption | (apply RdsI.rds; assumption)) ?_
      refine RL.alloc Try.zeroValue81 rfl rfl rfl rfl rfl ?_
      intro b1
      refine RL.store (vs := [_, _, _, _]) Try.sizeOf81 rfl rfl rfl rfl rfl rfl rfl rfl rfl (by repeat (first | exact Upd.here | apply Upd.there)) ?_
      refine RL.nil ?_
      refine NQ.seq ?_
      refine CW.seq ?_
      refine CW.region (ef := [7, 8]) (bk := [8]) ?_
      first | refine RL.fieldAddr fa_81_1 rfl rfl rfl rfl ?_ | refine RL.fieldAddrG fa_81_1 rfl rfl rfl rfl ?_
      first | refine RL.fieldAddr fa_79_0 rfl rfl rfl rfl ?_ | refine RL.fieldAddrG fa_79_0 rfl rfl rfl rfl ?_
      refine RL.loadq Try.isAgg3 rfl rfl rfl rfl ?_
      first | refine RL.fieldAddr fa_81_1 rfl rfl rfl rfl ?_ | refine RL.fieldAddrG fa_81_1 rfl rfl rfl rfl ?_
      first | refine RL.fieldAddr fa_79_1 rfl rfl rfl rfl ?_ | refine RL.fieldAddrG fa_79_1 rfl rfl rfl rfl ?_
      refine RL.loadq Try.isAgg3 rfl rfl rfl rfl ?_
      refine RL.buildS [_, _] Try.zeroValue82 pl_82 rfl rfl rfl rfl rfl ?_
      refine RL.alloc Try.zeroValue82 rfl rfl rfl rfl rfl ?_
      intro b2
      refine RL.store (vs := [_, _]) Try.sizeOf82 rfl rfl rfl rfl rfl rfl rfl rfl rfl (by repeat (first | exact Upd.here | apply Upd.there)) ?_
      refine RL.nil ?_
      refine NQ.seq ?_
      refine CW.only (.cons (k := 2) rfl (.cons (k := 7) rfl (.cons (k := 9) rfl (.cons (k := 11) rfl (.cons (k := 12) rfl (.cons (k := 13) rfl .nil)))))) ?_
      refine CW.seq ?_
      refine CW.seq ?_
      refine CW.region (ef := []) (bk := []) ?_
      first | refine RL.fieldAddr fa_81_0 rfl rfl rfl rfl ?_ | refine RL.fieldAddrG fa_81_0 rfl rfl rfl rfl ?_
      refine RL.loadq Try.isAgg3 rfl rfl rfl rfl ?_
      refine RL.callvq (among_any x.d 8 (by decide) (by decide)) Try.call10 rfl rfl rfl rfl ?_
      refine RL.bin rfl rfl rfl rfl rfl rfl ?_
      refine RL.nil ?_
      refine NQ.seq ?_
      refine CW.cutG (γ := Held × (Nat → Int) × (Nat → Int)) (fun g => CAl g.1 g.2.1 g.2.2 ∧ g.1.length ≤ i + 1) (fun g => [(2, .slice (some ad) L.length n), (7, .pointer (some ⟨b, 0, none⟩)), (9, .pointer (some ⟨y, 0, none⟩)), (11, .int .i64 (i : Int))]) (fun _ => [sls (some ad) 4 L.length (L.flatMap Act23.cells)])
        (fun g => CGI b r y slack most g.1 g.2.1 g.2.2) ?_ ?_
      ·
        refine CW.freezeP (A := [_, _]) (B := [_, _, _]) (.take (.take (.leave (.leave (.leave .nil))))) rfl ?_
        refine CW.cond rfl (fun hd => ?_) (fun hd => ?_)
        ·
          refine CW.seq ?_
          by_cases hsr : 0 ≤ x.s ∧ x.s < 8
          · obtain ⟨s, hs⟩ : ∃ s : Nat, x.s = (s : Int) := ⟨x.s.toNat, by omega⟩
            rw [hs]
            refine CW.cut [(2, .slice (some ad) L.length n), (7, .pointer (some ⟨b, 0, none⟩)), (9, .pointer (some ⟨y, 0, none⟩)), (11, .int .i64 (i : Int)), (86, .bool false)] [sls (some ad) 4 L.length (L.flatMap Act23.cells)] (CGI b r y slack most (noS (s : Int) c) (clrF U s) (clrF D s)) ?_ ?_
            ·
              refine CW.regionD (Sq.of [0, 1, 2, 3, 5, 6, 7, 8, 4, 9, 10]) [4, 9] [4, 9] [0, 1, 2, 3, 5, 6, 7, 8, 10] mixed (by kernel_rfl) ?_
              refine RL.move rfl rfl rfl rfl ?_
              first | refine RL.fieldAddr fa_81_1 rfl rfl rfl rfl ?_ | refine RL.fieldAddrG fa_81_1 rfl rfl rfl rfl ?_
              first | refine RL.fieldAddr fa_79_0 rfl rfl rfl rfl ?_ | refine RL.fieldAddrG fa_79_0 rfl rfl rfl rfl ?_
              refine RL.loadTq Try.isAgg3 rfl rfl rfl rfl ?_
              refine RL.move rfl rfl rfl rfl ?_
              first | refine RL.fieldAddr fa_81_1 rfl rfl rfl rfl ?_ | refine RL.fieldAddrG fa_81_1 rfl rfl rfl rfl ?_
              first | refine RL.fieldAddr fa_79_0 rfl rfl rfl rfl ?_ | refine RL.fieldAddrG fa_79_0 rfl rfl rfl rfl ?_
              refine RL.loadTq Try.isAgg3 rfl rfl rfl rfl ?_
              refine RL.callq (clear_ok b r slack most s c (by omega)) Try.call28 rfl rfl rfl rfl rfl (.inr rfl) ?_
              rintro _ _ _ ⟨rfl, rfl, rfl⟩
              refine RL.callq (rclear_ok y slack most U D s (by omega)) Try.call29 rfl rfl rfl rfl rfl (.inr rfl) ?_
              rintro _ _ _ ⟨rfl, rfl, rfl⟩
              refine RL.bin rfl rfl rfl rfl rfl rfl ?_
              refine RL.nil ?_
              exact NQ.mid (.cons rfl (.cons rfl (.cons rfl (.cons rfl (.cons rfl .nil))))) (fun w h => h.rea (fun _ h => by simp at h ⊢; simp [h]) (by repeat (first | exact Rea.nil | (apply Rea.cons; (solve | (repeat (first | exact Del.here | apply Del.there)))))))
            refine CW.condF rfl (rfl) ?_
            refine CW.skip ?_
            exact NQ.midG (noS (s : Int) c, clrF U s, clrF D s) ⟨hA.clear s, Nat.le_trans (noS_len _ _) (by omega)⟩ (.cons rfl (.cons rfl (.cons rfl (.cons rfl .nil)))) (fun w h => h)
          ·
            refine CW.regionD (Sq.of [0, 1, 2, 3, 4, 5, 6, 7, 8, 9, 10]) [] [] [0, 1, 2, 5, 6, 7, 10] mixed (by kernel_rfl) ?_
            refine RL.move rfl rfl rfl rfl ?_
            first | refine RL.fieldAddr fa_81_1 rfl rfl rfl rfl ?_ | refine RL.fieldAddrG fa_81_1 rfl rfl rfl rfl ?_
            first | refine RL.fieldAddr fa_79_0 rfl rfl rfl rfl ?_ | refine RL.fieldAddrG fa_79_0 rfl rfl rfl rfl ?_
            refine RL.loadq Try.isAgg3 rfl rfl rfl rfl ?_
            refine RL.callv (clear_bad b r slack most x.s hsr) Try.call28 rfl rfl rfl rfl (.inH (by repeat (first | exact List.Mem.head _ | apply List.Mem.tail)) .nil) ?_
            refine RL.move rfl rfl rfl rfl ?_
            first | refine RL.fieldAddr fa_81_1 rfl rfl rfl rfl ?_ | refine RL.fieldAddrG fa_81_1 rfl rfl rfl rfl ?_
            first | refine RL.fieldAddr fa_79_0 rfl rfl rfl rfl ?_ | refine RL.fieldAddrG fa_79_0 rfl rfl rfl rfl ?_
            refine RL.loadq Try.isAgg3 rfl rfl rfl rfl ?_
            refine RL.callvq (rclear_bad y x.s hsr) Try.call29 rfl rfl rfl rfl ?_
            refine RL.bin rfl rfl rfl rfl rfl rfl ?_
            refine RL.nil ?_
            refine NQ.seq ?_
            refine CW.only (.cons (k := 2) rfl (.cons (k := 7) rfl (.cons (k := 9) rfl (.cons (k := 11) rfl (.cons (k := 86) rfl .nil))))) ?_
            refine CW.condF rfl (rfl) ?_
            refine CW.skip ?_
            exact NQ.midG (c, U, D) ⟨hA, by show c.length ≤ i + 1; omega⟩ (.cons rfl (.cons rfl (.cons rfl (.cons rfl .nil)))) (fun w h => h.rea (fun _ h => by simp at h ⊢; simp [h]) (by repeat (first | exact Rea.nil | (apply Rea.cons; (solve | (repeat (first | exact Del.here | apply Del.there)))))))
        ·
          by_cases hm : mayP x.s x.a = true
          · have hm' : 0 ≤ x.s ∧ x.s < 8 ∧ 0 ≤ x.a ∧ x.a < 3 := by simpa [mayP] using hm
            obtain ⟨s, hs⟩ : ∃ s : Nat, x.s = (s : Int) := ⟨x.s.toNat, by omega⟩
            obtain ⟨a, ha⟩ : ∃ a : Nat, x.a = (a : Int) := ⟨x.a.toNat, by omega⟩
            rw [hs, ha]
            refine CW.seq ?_
            refine CW.region (ef := [5]) (bk := [5]) ?_
            refine RL.move rfl rfl rfl rfl ?_
            first | refine RL.fieldAddr fa_81_1 rfl rfl rfl rfl ?_ | refine RL.fieldAddrG fa_81_1 rfl rfl rfl rfl ?_
            refine RL.loadN (vs := [_, _]) Try.isAgg79 Try.sizeOf79 rfl rfl rfl rfl (by first | (apply Rds.cel; (solve | (repeat (first | exact List.Mem.head _ | apply List.Mem.tail))); exact at_spec ⟨rfl, rfl, trivial⟩) | (apply Rds.celI; (solve | (repeat (first | exact List.Mem.head _ | apply List.Mem.tail))); exact at_spec ⟨rfl, rfl, trivial⟩) | assumption | (apply RdsI.rds; assumption)) ?_
            first | refine RL.fieldAddr fa_81_2 rfl rfl rfl rfl ?_ | refine RL.fieldAddrG fa_81_2 rfl rfl rfl rfl ?_
            refine RL.loadq Try.isAgg70 rfl rfl rfl rfl ?_
            refine RL.callq (step_al b r slack most x.r hA (s := s) (a := a) (by omega) (by omega) hsl h2 hx) Try.call30 rfl rfl rfl rfl rfl (.inr rfl) ?_
            rintro _ _ _ ⟨rfl, rfl, rfl⟩
            refine RL.move rfl rfl rfl rfl ?_
            refine RL.extract rfl rfl rfl rfl rfl ?_
            refine RL.extract rfl rfl rfl rfl rfl ?_
            refine RL.assign rfl rfl rfl rfl ?_
            refine RL.assign rfl rfl rfl rfl ?_
            refine RL.nil ?_
            refine NQ.seq ?_
            refine CW.only (.cons (k := 2) rfl (.cons (k := 7) rfl (.cons (k := 9) rfl (.cons (k := 11) rfl (.cons (k := 12) rfl (.cons (k := 13) rfl (.cons (k := 14) rfl (.cons (k := 15) rfl .nil)))))))) ?_
            refine CW.seq ?_
            refine CW.region (ef := [4]) (bk := [4]) ?_
            refine RL.move rfl rfl rfl rfl ?_
            refine RL.loadN (vs := [_, _]) Try.isAgg82 Try.sizeOf82 rfl rfl rfl rfl (by first | (apply Rds.cel; (solve | (repeat (first | exact List.Mem.head _ | apply List.Mem.tail))); exact at_spec ⟨rfl, rfl, trivial⟩) | (apply Rds.celI; (solve | (repeat (first | exact List.Mem.head _ | apply List.Mem.tail))); exact at_spec ⟨rfl, rfl, trivial⟩) | assumption | (apply RdsI.rds; assumption)) ?_
            first | refine RL.fieldAddr fa_81_2 rfl rfl rfl rfl ?_ | refine RL.fieldAddrG fa_81_2 rfl rfl rfl rfl ?_
            refine RL.loadq Try.isAgg70 rfl rfl rfl rfl ?_
            refine RL.callq (rstep_ok y slack most U D s a x.r (by omega) (by omega) hsl h2 hx (hA.bd _).1 (hA.bd _).2) Try.call31 rfl rfl rfl rfl rfl (.inr rfl) ?_
            rintro _ _ _ ⟨rfl, rfl, rfl⟩
            refine RL.move rfl rfl rfl rfl ?_
            refine RL.extract rfl rfl rfl rfl rfl ?_
            refine RL.extract rfl rfl rfl rfl rfl ?_
            refine RL.assign rfl rfl rfl rfl ?_
            refine RL.assign rfl rfl rfl rfl ?_
            refine RL.nil ?_
            refine NQ.seq ?_
            refine CW.only (.cons (k := 2) rfl (.cons (k := 7) rfl (.cons (k := 9) rfl (.cons (k := 11) rfl (.cons (k := 14) rfl (.cons (k := 15) rfl (.cons (k := 16) rfl (.cons (k := 17) rfl .nil)))))))) ?_
            refine CW.seq ?_
            refine CW.region (ef := []) (bk := []) ?_
            refine RL.move rfl rfl rfl rfl ?_
            refine RL.move rfl rfl rfl rfl ?_
            refine RL.cmp rfl rfl rfl rfl rfl (neq_bool Try.runUnderlying4 _ _) ?_
            refine RL.move rfl rfl rfl rfl ?_
            apply RL.orB (d := 107) (dp := 111) (l' := (Sq.of [])) rfl (.cons (k := 2) rfl (.cons (k := 7) rfl (.cons (k := 9) rfl (.cons (k := 11) rfl .nil))))
            ·
              intro hb4 K4
              refine RL.move rfl rfl rfl rfl ?_
              refine RL.move rfl rfl rfl rfl ?_
              refine RL.bin rfl rfl rfl rfl rfl rfl ?_
              refine RL.pickF rfl rfl rfl rfl rfl ?_
              exact K4 _ (.cons rfl (.cons (k := 2) rfl (.cons (k := 7) rfl (.cons (k := 9) rfl (.cons (k := 11) rfl .nil)))))
            ·
              intro hb4 K4
              refine RL.skip rfl rfl rfl rfl ?_
              refine RL.skip rfl rfl rfl rfl ?_
              refine RL.skip rfl rfl rfl rfl ?_
              refine RL.pickT rfl rfl rfl rfl rfl ?_
              exact K4 _ (.cons rfl (.cons (k := 2) rfl (.cons (k := 7) rfl (.cons (k := 9) rfl (.cons (k := 11) rfl .nil)))))
            refine RL.nil ?_
            refine NQ.seq ?_
            refine CW.condF rfl ((by simp)) ?_
            refine CW.skip ?_
            exact NQ.midG (upd ((s : Int), (a : Int)) (nextP slack x.r (U (3 * s + a), D (3 * s + a))) c, setF U (3 * s + a) (nextP slack x.r (U (3 * s + a), D (3 * s + a))).1, setF D (3 * s + a) (nextP slack x.r (U (3 * s + a), D (3 * s + a))).2) ⟨hA.step (by omega) (by omega) slack x.r, Nat.le_trans (upd_len _ _ _) (by omega)⟩ (.cons rfl (.cons rfl (.cons rfl (.cons rfl .nil)))) (fun w h => h.rea (fun _ h => by simp at h ⊢; simp [h]) (by repeat (first | exact Rea.nil | (apply Rea.cons; (solve | (repeat (first | exact Del.here | apply Del.there)))))))
          ·
            have hm' : mayP x.s x.a = false := by simpa using hm
            refine CW.seq ?_
            refine CW.region (ef := []) (bk := []) ?_
            refine RL.move rfl rfl rfl rfl ?_
            first | refine RL.fieldAddr fa_81_1 rfl rfl rfl rfl ?_ | refine RL.fieldAddrG fa_81_1 rfl rfl rfl rfl ?_
            refine RL.loadN (vs := [_, _]) Try.isAgg79 Try.sizeOf79 rfl rfl rfl rfl (by first | (apply Rds.cel; (solve | (repeat (first | exact List.Mem.head _ | apply List.Mem.tail))); exact at_spec ⟨rfl, rfl, trivial⟩) | (apply Rds.celI; (solve | (repeat (first | exact List.Mem.head _ | apply List.Mem.tail))); exact at_spec ⟨rfl, rfl, trivial⟩) | assumption | (apply RdsI.rds; assumption)) ?_
            first | refine RL.fieldAddr fa_81_2 rfl rfl rfl rfl ?_ | refine RL.fieldAddrG fa_81_2 rfl rfl rfl rfl ?_
            refine RL.loadq Try.isAgg70 rfl rfl rfl rfl ?_
            refine RL.callv (step_bad b r slack most x.s x.a x.r hm') Try.call30 rfl rfl rfl rfl (.inH (by repeat (first | exact List.Mem.head _ | apply List.Mem.tail)) .nil) ?_
            refine RL.move rfl rfl rfl rfl ?_
            refine RL.extract rfl rfl rfl rfl rfl ?_
            refine RL.extract rfl rfl rfl rfl rfl ?_
            refine RL.assign rfl rfl rfl rfl ?_
            refine RL.assign rfl rfl rfl rfl ?_
            refine RL.nil ?_
            refine NQ.seq ?_
            refine CW.only (.cons (k := 2) rfl (.cons (k := 7) rfl (.cons (k := 9) rfl (.cons (k := 11) rfl (.cons (k := 12) rfl (.cons (k := 13) rfl (.cons (k := 14) rfl (.cons (k := 15) rfl .nil)))))))) ?_
            refine CW.seq ?_
            refine CW.region (ef := []) (bk := []) ?_
            refine RL.move rfl rfl rfl rfl ?_
            refine RL.loadN (vs := [_, _]) Try.isAgg82 Try.sizeOf82 rfl rfl rfl rfl (by first | (apply Rds.cel; (solve | (repeat (first | exact List.Mem.head _ | apply List.Mem.tail))); exact at_spec ⟨rfl, rfl, trivial⟩) | (apply Rds.celI; (solve | (repeat (first | exact List.Mem.head _ | apply List.Mem.tail))); exact at_spec ⟨rfl, rfl, trivial⟩) | assumption | (apply RdsI.rds; assumption)) ?_
            first | refine RL.fieldAddr fa_81_2 rfl rfl rfl rfl ?_ | refine RL.fieldAddrG fa_81_2 rfl rfl rfl rfl ?_
            refine RL.loadq Try.isAgg70 rfl rfl rfl rfl ?_
            refine RL.callvq (rstep_bad y x.s x.a x.r hm') Try.call31 rfl rfl rfl rfl ?_
            refine RL.move rfl rfl rfl rfl ?_
            refine RL.extract rfl rfl rfl rfl rfl ?_
            refine RL.extract rfl rfl rfl rfl rfl ?_
            refine RL.assign rfl rfl rfl rfl ?_
            refine RL.assign rfl rfl rfl rfl ?_
            refine RL.nil ?_
            refine NQ.seq ?_
            refine CW.only (.cons (k := 2) rfl (.cons (k := 7) rfl (.cons (k := 9) rfl (.cons (k := 11) rfl (.cons (k := 14) rfl (.cons (k := 15) rfl (.cons (k := 16) rfl (.cons (k := 17) rfl .nil)))))))) ?_
            refine CW.seq ?_
            refine CW.region (ef := []) (bk := []) ?_
            refine RL.move rfl rfl rfl rfl ?_
            refine RL.move rfl rfl rfl rfl ?_
            refine RL.cmp rfl rfl rfl rfl rfl (neq_bool Try.runUnderlying4 _ _) ?_
            refine RL.move rfl rfl rfl rfl ?_
            apply RL.orB (d := 107) (dp := 111) (l' := (Sq.of [])) rfl (.cons (k := 2) rfl (.cons (k := 7) rfl (.cons (k := 9) rfl (.cons (k := 11) rfl .nil))))
            ·
              intro hb4 K4
              refine RL.move rfl rfl rfl rfl ?_
              refine RL.move rfl rfl rfl rfl ?_
              refine RL.bin rfl rfl rfl rfl rfl rfl ?_
              refine RL.pickF rfl rfl rfl rfl rfl ?_
              exact K4 _ (.cons rfl (.cons (k := 2) rfl (.cons (k := 7) rfl (.cons (k := 9) rfl (.cons (k := 11) rfl .nil)))))
            ·
              intro hb4 K4
              refine RL.skip rfl rfl rfl rfl ?_
              refine RL.skip rfl rfl rfl rfl ?_
              refine RL.skip rfl rfl rfl rfl ?_
              refine RL.pickT rfl rfl rfl rfl rfl ?_
              exact K4 _ (.cons rfl (.cons (k := 2) rfl (.cons (k := 7) rfl (.cons (k := 9) rfl (.cons (k := 11) rfl .nil)))))
            refine RL.nil ?_
            refine NQ.seq ?_
            refine CW.condF rfl ((by simp)) ?_
            refine CW.skip ?_
            exact NQ.midG (c, U, D) ⟨hA, by show c.length ≤ i + 1; omega⟩ (.cons rfl (.cons rfl (.cons rfl (.cons rfl .nil)))) (fun w h => h.rea (fun _ h => by simp at h ⊢; simp [h]) (by repeat (first | exact Rea.nil | (apply Rea.cons; (solve | (repeat (first | exact Del.here | apply Del.there)))))))
      rintro ⟨c, U, D⟩ ⟨hA, hl⟩
      dsimp only at hA hl ⊢
      refine CW.seq ?_
      refine CW.seq ?_
      refine CW.region (ef := []) (bk := []) ?_
      refine RL.assign rfl rfl rfl rfl ?_
      refine RL.nil ?_
      refine NQ.seq ?_
      refine CW.cut [(2, .slice (some ad) L.length n), (7, .pointer (some ⟨b, 0, none⟩)), (9, .pointer (some ⟨y, 0, none⟩)), (11, .int .i64 (i : Int))] [sls (some ad) 4 L.length (L.flatMap Act23.cells)] (CGI b r y slack most c U D) ?_ ?_
      ·
        refine CW.block ?_
        refine CW.loop (γ := Nat) (fun s => s ≤ 8) (fun s => [(2, .slice (some ad) L.length n), (7, .pointer (some ⟨b, 0, none⟩)), (9, .pointer (some ⟨y, 0, none⟩)), (11, .int .i64 (i : Int)), (18, .int .i64 (s : Int))])
          (fun _ => [sls (some ad) 4 L.length (L.flatMap Act23.cells)]) (fun _ => CGI b r y slack most c U D) (fun s => 8 - s) 0 (by omega) (.cons rfl (.cons rfl (.cons rfl (.cons rfl (.cons rfl .nil))))) (fun w h => h) ?_
        intro s hs8
        refine CW.seq ?_
        refine CW.seq ?_
        refine CW.region (ef := []) (bk := []) ?_
        refine RL.move rfl rfl rfl rfl ?_
        refine RL.bin rfl rfl rfl rfl rfl rfl ?_
        refine RL.nil ?_
        refine NQ.seq ?_
        refine CW.cond rfl (fun hls => ?_) (fun hls => ?_)
        ·
          refine CW.skip ?_
          refine NQ.seq ?_
          refine CW.seq ?_
          refine CW.block ?_
          refine CW.seq ?_
          refine CW.region (ef := []) (bk := []) ?_
          refine RL.assign rfl rfl rfl rfl ?_
          refine RL.nil ?_
          refine NQ.seq ?_
          refine CW.block ?_
          have hs : s < 8 := by simp at hls; omega
          refine CW.loop (γ := Nat) (fun a => a ≤ 3) (fun a => [(2, .slice (some ad) L.length n), (7, .pointer (some ⟨b, 0, none⟩)), (9, .pointer (some ⟨y, 0, none⟩)), (11, .int .i64 (i : Int)), (18, .int .i64 (s : Int)), (19, .int .i64 (a : Int))])
            (fun _ => [sls (some ad) 4 L.length (L.flatMap Act23.cells)]) (fun _ => CGI b r y slack most c U D) (fun a => 3 - a) 0 (by omega) (.cons rfl (.cons rfl (.cons rfl (.cons rfl (.cons rfl (.cons rfl .nil)))))) (fun w h => h) ?_
          intro a ha3
          refine CW.seq ?_
          refine CW.seq ?_
          refine CW.region (ef := []) (bk := []) ?_
          refine RL.move rfl rfl rfl rfl ?_
          refine RL.bin rfl rfl rfl rfl rfl rfl ?_
          refine RL.nil ?_
          refine NQ.seq ?_
          refine CW.cond rfl (fun hla => ?_) (fun hla => ?_)
          ·
            have ha : a < 3 := by simp at hla; omega
            refine CW.skip ?_
            refine NQ.seq ?_
            refine CW.seq ?_
            refine CW.block ?_
            refine CW.seq ?_
            refine CW.region (ef := []) (bk := []) ?_
            refine RL.move rfl rfl rfl rfl ?_
            refine RL.move rfl rfl rfl rfl ?_
            refine RL.move rfl rfl rfl rfl ?_
            refine RL.buildS [_, _] Try.zeroValue79 pl_79 rfl rfl rfl rfl rfl ?_
            refine RL.callvq (sums_al b r slack most hA hs ha) Try.call32 rfl rfl rfl rfl ?_
            refine RL.move rfl rfl rfl rfl ?_
            refine RL.extract rfl rfl rfl rfl rfl ?_
            refine RL.extract rfl rfl rfl rfl rfl ?_
            refine RL.assign rfl rfl rfl rfl ?_
            refine RL.assign rfl rfl rfl rfl ?_
            refine RL.nil ?_
            refine NQ.seq ?_
            refine CW.only (.cons (k := 2) rfl (.cons (k := 7) rfl (.cons (k := 9) rfl (.cons (k := 11) rfl (.cons (k := 18) rfl (.cons (k := 19) rfl (.cons (k := 20) rfl (.cons (k := 21) rfl .nil)))))))) ?_
            refine CW.seq ?_
            refine CW.region (ef := []) (bk := []) ?_
            refine RL.move rfl rfl rfl rfl ?_
            refine RL.move rfl rfl rfl rfl ?_
            refine RL.move rfl rfl rfl rfl ?_
            refine RL.move rfl rfl rfl rfl ?_
            refine RL.nilCheck rfl rfl rfl rfl ?_
            first | refine RL.fieldAddr fa_92_2 rfl rfl rfl rfl ?_ | refine RL.fieldAddrG fa_92_2 rfl rfl rfl rfl ?_
            refine RL.idxAAt (j := s) Try.runUnderlying90 Try.sizeOf89 rfl rfl rfl rfl rfl rfl hs ?_
            refine RL.idxAAt (j := a) Try.runUnderlying89 Try.sizeOf70 rfl rfl rfl rfl rfl rfl ha ?_
            refine RL.load Try.isAgg70 rfl rfl rfl rfl (Rd.get (by repeat (first | exact List.Mem.head _ | apply List.Mem.tail)) (rm_up hs ha)) ?_
            refine RL.bin rfl rfl rfl rfl rfl rfl ?_
            refine RL.move rfl rfl rfl rfl ?_
            apply RL.orB (d := 138) (dp := 149) (l' := (Sq.of [])) rfl (.cons (k := 2) rfl (.cons (k := 7) rfl (.cons (k := 9) rfl (.cons (k := 11) rfl (.cons (k := 18) rfl (.cons (k := 19) rfl .nil))))))
            ·
              intro hb11 K11
              refine RL.move rfl rfl rfl rfl ?_
              refine RL.move rfl rfl rfl rfl ?_
              refine RL.move rfl rfl rfl rfl ?_
              refine RL.move rfl rfl rfl rfl ?_
              refine RL.nilCheck rfl rfl rfl rfl ?_
              first | refine RL.fieldAddr fa_92_3 rfl rfl rfl rfl ?_ | refine RL.fieldAddrG fa_92_3 rfl rfl rfl rfl ?_
              refine RL.idxAAt (j := s) Try.runUnderlying90 Try.sizeOf89 rfl rfl rfl rfl rfl rfl hs ?_
              refine RL.idxAAt (j := a) Try.runUnderlying89 Try.sizeOf70 rfl rfl rfl rfl rfl rfl ha ?_
              refine RL.load Try.isAgg70 rfl rfl rfl rfl (Rd.get (by repeat (first | exact List.Mem.head _ | apply List.Mem.tail)) (rm_down hs ha)) ?_
              refine RL.bin rfl rfl rfl rfl rfl rfl ?_
              refine RL.pickF rfl rfl rfl rfl rfl ?_
              exact K11 _ (.cons rfl (.cons (k := 2) rfl (.cons (k := 7) rfl (.cons (k := 9) rfl (.cons (k := 11) rfl (.cons (k := 18) rfl (.cons (k := 19) rfl .nil)))))))
            ·
              intro hb11 K11
              refine RL.skip rfl rfl rfl rfl ?_
              refine RL.skip rfl rfl rfl rfl ?_
              refine RL.skip rfl rfl rfl rfl ?_
              refine RL.skip rfl rfl rfl rfl ?_
              refine RL.skip rfl rfl rfl rfl ?_
              refine RL.skip rfl rfl rfl rfl ?_
              refine RL.skip rfl rfl rfl rfl ?_
              refine RL.skip rfl rfl rfl rfl ?_
              refine RL.skip rfl rfl rfl rfl ?_
              refine RL.skip rfl rfl rfl rfl ?_
              refine RL.pickT rfl rfl rfl rfl rfl ?_
              exact K11 _ (.cons rfl (.cons (k := 2) rfl (.cons (k := 7) rfl (.cons (k := 9) rfl (.cons (k := 11) rfl (.cons (k := 18) rfl (.cons (k := 19) rfl .nil)))))))
            refine RL.nil ?_
            refine NQ.seq ?_
            refine CW.condF rfl ((by simp)) ?_
            refine CW.skip ?_
            refine NQ.block ?_
            refine NQ.seq ?_
            refine CW.region (ef := []) (bk := []) ?_
            refine RL.move rfl rfl rfl rfl ?_
            refine RL.binX rfl rfl rfl rfl rfl rfl (wrapV_i64 (by omega) (by omega)) ?_
            refine RL.assign rfl rfl rfl rfl ?_
            refine RL.nil ?_
            refine NQ.round (g := a) (a + 1) ha (by omega) (.cons rfl (.cons rfl (.cons rfl (.cons rfl (.cons rfl (.cons rfl .nil)))))) (fun w h => h)
          ·
            refine CW.exit ?_
            refine XQ.seq ?_
            refine XQ.seq ?_
            refine XQ.hit ?_
            refine NQ.block ?_
            refine NQ.seq ?_
            refine CW.region (ef := []) (bk := []) ?_
            refine RL.move rfl rfl rfl rfl ?_
            refine RL.binX rfl rfl rfl rfl rfl rfl (wrapV_i64 (by omega) (by omega)) ?_
            refine RL.assign rfl rfl rfl rfl ?_
            refine RL.nil ?_
            refine NQ.round (g := s) (s + 1) hs (by omega) (.cons rfl (.cons rfl (.cons rfl (.cons rfl (.cons rfl .nil))))) (fun w h => h)
        ·
          refine CW.exit ?_
          refine XQ.seq ?_
          refine XQ.seq ?_
          refine XQ.hit ?_
          exact NQ.mid (.cons rfl (.cons rfl (.cons rfl (.cons rfl .nil)))) (fun w h => h)
      refine CW.seq ?_
      refine CW.region (ef := [1, 3]) (bk := [1]) ?_
      refine RL.move rfl rfl rfl rfl ?_
      refine RL.callq (drifts_ok b r slack most c (by omega)) Try.call33 rfl rfl rfl rfl rfl (.inr rfl) ?_
      rintro _ _ _ ⟨ob, cp, m, hm, rfl, rfl, rfl⟩
      have hm1 : m = (rdl most U D 24).length := by rw [hm, ← hA.drifts h2, List.length_mergeSort]
      rw [hA.drifts h2]
      clear hm
      refine RL.move rfl rfl rfl rfl ?_
      refine RL.callq (rdrifts_any y slack most U D) Try.call34 rfl rfl rfl rfl rfl (.inl rfl) ?_
      rintro _ _ _ ⟨oc, cq, m2, hm2, rfl, rfl, rfl⟩
      obtain rfl : m = m2 := by rw [hm1, hm2]
      have hm24 : m ≤ 24 := by rw [hm1]; exact rdl_le _ _ _ _
      generalize rdl most U D 24 = R at hm1 ⊢
      refine RL.assign rfl rfl rfl rfl ?_
      refine RL.assign rfl rfl rfl rfl ?_
      refine RL.nil ?_
      refine NQ.seq ?_
      refine CW.seq ?_
      refine CW.seq ?_
      refine CW.region (ef := []) (bk := []) ?_
      refine RL.move rfl rfl rfl rfl ?_
      refine RL.lenS Try.runUnderlying93 rfl rfl rfl rfl ?_
      refine RL.move rfl rfl rfl rfl ?_
      refine RL.lenS Try.runUnderlying95 rfl rfl rfl rfl ?_
      refine RL.bin rfl rfl rfl rfl rfl rfl ?_
      refine RL.nil ?_
      refine NQ.seq ?_
      refine CW.only (.cons (k := 2) rfl (.cons (k := 7) rfl (.cons (k := 9) rfl (.cons (k := 11) rfl (.cons (k := 22) rfl (.cons (k := 23) rfl (.cons (k := 158) rfl .nil))))))) ?_
      refine CW.condF rfl ((by simp)) ?_
      refine CW.skip ?_
      refine NQ.seq ?_
      refine CW.seq ?_
      refine CW.region (ef := []) (bk := []) ?_
      refine RL.assign rfl rfl rfl rfl ?_
      refine RL.nil ?_
      refine NQ.seq ?_
      refine CW.block ?_
      refine CW.loop (γ := Nat) (fun k => k ≤ m) (fun k => [(2, .slice (some ad) L.length n), (7, .pointer (some ⟨b, 0, none⟩)), (9, .pointer (some ⟨y, 0, none⟩)), (11, .int .i64 (i : Int)), (22, slO ob m cp), (23, slO oc m cq), (24, .int .i64 (k : Int))])
        (fun _ => [sls (some ad) 4 L.length (L.flatMap Act23.cells)]) (fun _ => own ob cp 79 2 m (R.flatMap plc) :: own oc cq 82 2 m (R.flatMap plc) :: CGI b r y slack most c U D) (fun k => m - k) 0 (by omega) (.cons rfl (.cons rfl (.cons rfl (.cons rfl (.cons rfl (.cons rfl (.cons rfl .nil))))))) (fun w h => h.rea (fun _ h => h) (by repeat (first | exact Rea.nil | (apply Rea.cons; (solve | (repeat (first | exact Del.here | apply Del.there))))))) ?_
      intro k hkm
      refine CW.fact (p := (ob = none → m = 0) ∧ (oc = none → m = 0)) (fun w hC => ⟨fun e => by subst e; exact own_none (hC.s.h _ (List.Mem.head _)), fun e => by subst e; exact own_none (hC.s.h _ (List.Mem.tail _ (List.Mem.head _)))⟩) (fun hno => ?_)
      refine CW.seq ?_
      refine CW.seq ?_
      refine CW.region (ef := []) (bk := []) ?_
      refine RL.move rfl rfl rfl rfl ?_
      refine RL.move rfl rfl rfl rfl ?_
      refine RL.lenS Try.runUnderlying93 rfl rfl rfl rfl ?_
      refine RL.bin rfl rfl rfl rfl rfl rfl ?_
      refine RL.nil ?_
      refine NQ.seq ?_
      refine CW.cond rfl (fun hlk => ?_) (fun hlk => ?_)
      ·
        have hk : k < m := by simp at hlk; omega
        obtain ⟨ob', rfl⟩ : ∃ q, ob = some q := by
          cases ob with
          | none => exact absurd (hno.1 rfl) (by omega)
          | some q => exact ⟨q, rfl⟩
        obtain ⟨oc', rfl⟩ : ∃ q, oc = some q := by
          cases oc with
          | none => exact absurd (hno.2 rfl) (by omega)
          | some q => exact ⟨q, rfl⟩
        have hR := List.getElem?_eq_getElem (show k < R.length by omega)
        generalize R[k]'(show k < R.length by omega) = pp at hR
        obtain ⟨hp1, hp2⟩ := pls_get hR
        refine CW.skip ?_
        refine NQ.seq ?_
        refine CW.seq ?_
        refine CW.block ?_
        refine CW.seq ?_
        refine CW.regionD (Sq.of [0, 1, 2, 3, 4, 5, 6, 7, 8, 9, 10, 11, 12, 13, 14, 15, 16, 17, 18, 19, 20, 21, 22, 23]) [] [] [0, 1, 2, 3, 5, 6, 7, 8, 10, 11, 12, 13, 14, 15, 17, 18, 19, 20, 22, 23] mixed (by kernel_rfl) ?_
        refine RL.move rfl rfl rfl rfl ?_
        refine RL.move rfl rfl rfl rfl ?_
        refine RL.idxAt (j := k) Try.runUnderlying93 Try.sizeOf79 rfl rfl rfl rfl rfl rfl (hk) ?_
        refine RL.fieldAddr fa_79_0 rfl rfl rfl rfl ?_
        refine RL.load Try.isAgg3 rfl rfl rfl rfl (own_rd (List.Mem.head _) hp1) ?_
        refine RL.move rfl rfl rfl rfl ?_
        refine RL.move rfl rfl rfl rfl ?_
        refine RL.idxAt (j := k) Try.runUnderlying95 Try.sizeOf82 rfl rfl rfl rfl rfl rfl (hk) ?_
        refine RL.fieldAddr fa_82_0 rfl rfl rfl rfl ?_
        refine RL.load Try.isAgg3 rfl rfl rfl rfl (own_rd (List.Mem.tail _ (List.Mem.head _)) hp1) ?_
        refine RL.bin rfl rfl rfl rfl rfl rfl ?_
        refine RL.move rfl rfl rfl rfl ?_
        apply RL.orB (d := 176) (dp := 188) (l' := (Sq.of [])) rfl (.cons (k := 2) rfl (.cons (k := 7) rfl (.cons (k := 9) rfl (.cons (k := 11) rfl (.cons (k := 22) rfl (.cons (k := 23) rfl (.cons (k := 24) rfl .nil)))))))
        ·
          intro hb12 K12
          refine RL.move rfl rfl rfl rfl ?_
          refine RL.move rfl rfl rfl rfl ?_
          refine RL.idxAt (j := k) Try.runUnderlying93 Try.sizeOf79 rfl rfl rfl rfl rfl rfl (hk) ?_
          refine RL.fieldAddr fa_79_1 rfl rfl rfl rfl ?_
          refine RL.load Try.isAgg3 rfl rfl rfl rfl (own_rd (List.Mem.head _) hp2) ?_
          refine RL.move rfl rfl rfl rfl ?_
          refine RL.move rfl rfl rfl rfl ?_
          refine RL.idxAt (j := k) Try.runUnderlying95 Try.sizeOf82 rfl rfl rfl rfl rfl rfl (hk) ?_
          refine RL.fieldAddr fa_82_1 rfl rfl rfl rfl ?_
          refine RL.load Try.isAgg3 rfl rfl rfl rfl (own_rd (List.Mem.tail _ (List.Mem.head _)) hp2) ?_
          refine RL.bin rfl rfl rfl rfl rfl rfl ?_
          refine RL.pickF rfl rfl rfl rfl rfl ?_
          exact K12 _ (.cons rfl (.cons (k := 2) rfl (.cons (k := 7) rfl (.cons (k := 9) rfl (.cons (k := 11) rfl (.cons (k := 22) rfl (.cons (k := 23) rfl (.cons (k := 24) rfl .nil))))))))
        ·
          intro hb12 K12
          refine RL.skip rfl rfl rfl rfl ?_
          refine RL.skip rfl rfl rfl rfl ?_
          refine RL.skip rfl rfl rfl rfl ?_
          refine RL.skip rfl rfl rfl rfl ?_
          refine RL.skip rfl rfl rfl rfl ?_
          refine RL.skip rfl rfl rfl rfl ?_
          refine RL.skip rfl rfl rfl rfl ?_
          refine RL.skip rfl rfl rfl rfl ?_
          refine RL.skip rfl rfl rfl rfl ?_
          refine RL.skip rfl rfl rfl rfl ?_
          refine RL.skip rfl rfl rfl rfl ?_
          refine RL.pickT rfl rfl rfl rfl rfl ?_
          exact K12 _ (.cons rfl (.cons (k := 2) rfl (.cons (k := 7) rfl (.cons (k := 9) rfl (.cons (k := 11) rfl (.cons (k := 22) rfl (.cons (k := 23) rfl (.cons (k := 24) rfl .nil))))))))
        refine RL.nil ?_
        refine NQ.seq ?_
        refine CW.condF rfl ((by simp)) ?_
        refine CW.skip ?_
        refine NQ.block ?_
        refine NQ.seq ?_
        refine CW.region (ef := []) (bk := []) ?_
        refine RL.move rfl rfl rfl rfl ?_
        refine RL.binX rfl rfl rfl rfl rfl rfl (wrapV_i64 (by omega) (by omega)) ?_
        refine RL.assign rfl rfl rfl rfl ?_
        refine RL.nil ?_
        refine NQ.round (g := k) (k + 1) hk (by omega) (.cons rfl (.cons rfl (.cons rfl (.cons rfl (.cons rfl (.cons rfl (.cons rfl .nil))))))) (fun w h => h)
      ·
        refine CW.exit ?_
        refine XQ.seq ?_
        refine XQ.seq ?_
        refine XQ.hit ?_
        refine NQ.block ?_
        refine NQ.seq ?_
        refine CW.only (.cons (k := 2) rfl (.cons (k := 7) rfl (.cons (k := 9) rfl (.cons (k := 11) rfl .nil)))) ?_
        refine CW.region (ef := []) (bk := []) ?_
        refine RL.move rfl rfl rfl rfl ?_
        refine RL.binX rfl rfl rfl rfl rfl rfl (wrapV_i64 (by omega) (by omega)) ?_
        refine RL.assign rfl rfl rfl rfl ?_
        refine RL.nil ?_
        refine NQ.round (g := (⟨i, [], U, D⟩ : CG)) (⟨i + 1, c, U, D⟩ : CG) ⟨hlt, hA, hl, by show i + 1 ≤ 60; omega⟩ (by show L.length - (i + 1) < L.length - i; omega) (.cons rfl (.cons rfl (.cons rfl (.cons rfl .nil)))) (fun w h => h.rea (fun _ h => h) (by repeat (first | exact Rea.nil | (apply Rea.cons; (solve | (repeat (first | exact Del.here | apply Del.there)))))))
    ·
      refine CW.exit ?_
      refine XQ.seq ?_
      refine XQ.seq ?_
      refine XQ.hit ?_
      refine NQ.seq ?_
      refine CW.seq ?_
      refine CW.region (ef := []) (bk := []) ?_
      refine RL.callvq (works_ok) Try.call35 rfl rfl rfl rfl ?_
      refine RL.assign rfl rfl rfl rfl ?_
      refine RL.nil ?_
      refine NQ.seq ?_
      refine CW.only (.cons (k := 6) rfl .nil) ?_
      refine CW.ret ?_
      exact RQ.post (res1 rfl rfl) (Split.none _) ⟨rfl, rfl, rfl⟩
  · have hok' := hok
    refine Spc.enter Try.func6 rfl rfl rfl (fun w0 hw0 => ?_)
    refine CW.seq ?_
    refine CW.region (ef := []) (bk := []) ?_
    refine RL.assign rfl rfl rfl rfl ?_
    refine RL.nil ?_
    refine NQ.seq ?_
    refine CW.seq ?_
    refine CW.region (ef := []) (bk := []) ?_
    refine RL.move rfl rfl rfl rfl ?_
    refine RL.move rfl rfl rfl rfl ?_
    refine RL.callvq (new_bad slack most hok) Try.call26 rfl rfl rfl rfl ?_
    refine RL.move rfl rfl rfl rfl ?_
    refine RL.extract rfl rfl rfl rfl rfl ?_
    refine RL.extract rfl rfl rfl rfl rfl ?_
    refine RL.assign rfl rfl rfl rfl ?_
    refine RL.assign rfl rfl rfl rfl ?_
    refine RL.nil ?_
    refine NQ.seq ?_
    refine CW.only (.cons (k := 0) rfl (.cons (k := 1) rfl (.cons (k := 2) rfl (.cons (k := 7) rfl (.cons (k := 8) rfl .nil))))) ?_
    refine CW.seq ?_
    refine CW.region (ef := []) (bk := []) ?_
    refine RL.move rfl rfl rfl rfl ?_
    refine RL.move rfl rfl rfl rfl ?_
    refine RL.callvq (rnew_bad slack most hok) Try.call27 rfl rfl rfl rfl ?_
    refine RL.move rfl rfl rfl rfl ?_
    refine RL.extract rfl rfl rfl rfl rfl ?_
    refine RL.extract rfl rfl rfl rfl rfl ?_
    refine RL.assign rfl rfl rfl rfl ?_
    refine RL.assign rfl rfl rfl rfl ?_
    refine RL.nil ?_
    refine NQ.seq ?_
    refine CW.only (.cons (k := 2) rfl (.cons (k := 7) rfl (.cons (k := 8) rfl (.cons (k := 9) rfl (.cons (k := 10) rfl .nil))))) ?_
    refine CW.seq ?_
    refine CW.seq ?_
    refine CW.region (ef := []) (bk := []) ?_
    refine RL.move rfl rfl rfl rfl ?_
    refine RL.move rfl rfl rfl rfl ?_
    refine RL.bin rfl rfl rfl rfl rfl rfl ?_
    refine RL.move rfl rfl rfl rfl ?_
    apply RL.orB (d := 40) (dp := 46) (l' := (Sq.of [])) rfl (.cons (k := 2) rfl (.cons (k := 7) rfl (.cons (k := 9) rfl .nil)))
    ·
      intro hb4 K4
      refine RL.move rfl rfl rfl rfl ?_
      refine RL.cmp rfl rfl rfl rfl rfl (eql_ptr Try.runUnderlying72 _) ?_
      refine RL.move rfl rfl rfl rfl ?_
      refine RL.cmp rfl rfl rfl rfl rfl (eql_ptr Try.runUnderlying75 _) ?_
      refine RL.cmp rfl rfl rfl rfl rfl (neq_bool Try.runUnderlying4 _ _) ?_
      refine RL.pickF rfl rfl rfl rfl rfl ?_
      exact K4 _ (.cons rfl (.cons (k := 2) rfl (.cons (k := 7) rfl (.cons (k := 9) rfl .nil))))
    ·
      intro hb4 K4
      refine RL.skip rfl rfl rfl rfl ?_
      refine RL.skip rfl rfl rfl rfl ?_
      refine RL.skip rfl rfl rfl rfl ?_
      refine RL.skip rfl rfl rfl rfl ?_
      refine RL.skip rfl rfl rfl rfl ?_
      refine RL.pickT rfl rfl rfl rfl rfl ?_
      exact K4 _ (.cons rfl (.cons (k := 2) rfl (.cons (k := 7) rfl (.cons (k := 9) rfl .nil))))
    refine RL.nil ?_
    refine NQ.seq ?_
    refine CW.condF rfl ((by simp)) ?_
    refine CW.skip ?_
    refine NQ.seq ?_
    refine CW.seq ?_
    refine CW.seq ?_
    refine CW.region (ef := []) (bk := []) ?_
    refine RL.assign rfl rfl rfl rfl ?_
    refine RL.nil ?_
    refine NQ.seq ?_
    refine CW.block ?_
    refine CW.loop (γ := Nat) (fun i => i = 0) (fun i => [(2, .slice p L.length n), (7, .pointer none), (9, .pointer none), (11, .int .i64 (i : Int))]) (fun _ => [sls p 4 L.length (L.flatMap Act23.cells)]) (fun _ => []) (fun i => L.length - i) 0 rfl (.cons rfl (.cons rfl (.cons rfl (.cons rfl .nil)))) (fun w h => h) ?_
    intro i hi
    refine CW.seq ?_
    refine CW.seq ?_
    refine CW.region (ef := []) (bk := []) ?_
    refine RL.move rfl rfl rfl rfl ?_
    refine RL.move rfl rfl rfl rfl ?_
    refine RL.lenS Try.runUnderlying71 rfl rfl rfl rfl ?_
    refine RL.bin rfl rfl rfl rfl rfl rfl ?_
    refine RL.move rfl rfl rfl rfl ?_
    apply RL.andB (d := 51) (dp := 54) (l' := (Sq.of [8, 9, 10, 11])) rfl (.cons (k := 2) rfl (.cons (k := 7) rfl (.cons (k := 9) rfl (.cons (k := 11) rfl .nil))))
    ·
      intro hb5 K5
      refine RL.move rfl rfl rfl rfl ?_
      refine RL.bin rfl rfl rfl rfl rfl rfl ?_
      refine RL.pickT rfl rfl rfl rfl rfl ?_
      exact K5 _ (.cons rfl (.cons (k := 2) rfl (.cons (k := 7) rfl (.cons (k := 9) rfl (.cons (k := 11) rfl .nil)))))
    ·
      intro hb5 K5
      refine RL.skip rfl rfl rfl rfl ?_
      refine RL.skip rfl rfl rfl rfl ?_
      refine RL.pickF rfl rfl rfl rfl rfl ?_
      exact K5 _ (.cons rfl (.cons (k := 2) rfl (.cons (k := 7) rfl (.cons (k := 9) rfl (.cons (k := 11) rfl .nil)))))
    refine RL.move rfl rfl rfl rfl ?_
    apply RL.andB (d := 55) (dp := 58) (l' := (Sq.of [])) rfl (.cons (k := 2) rfl (.cons (k := 7) rfl (.cons (k := 9) rfl (.cons (k := 11) rfl .nil))))
    ·
      intro hb9 K9
      refine RL.move rfl rfl rfl rfl ?_
      refine RL.cmp rfl rfl rfl rfl rfl (neq_ptr Try.runUnderlying75 _) ?_
      refine RL.pickT rfl rfl rfl rfl rfl ?_
      exact K9 _ (.cons rfl (.cons (k := 2) rfl (.cons (k := 7) rfl (.cons (k := 9) rfl (.cons (k := 11) rfl .nil)))))
    ·
      intro hb9 K9
      refine RL.skip rfl rfl rfl rfl ?_
      refine RL.skip rfl rfl rfl rfl ?_
      refine RL.pickF rfl rfl rfl rfl rfl ?_
      exact K9 _ (.cons rfl (.cons (k := 2) rfl (.cons (k := 7) rfl (.cons (k := 9) rfl (.cons (k := 11) rfl .nil)))))
    refine RL.nil ?_
    refine NQ.seq ?_
    refine CW.condF rfl ((by simp)) ?_
    refine CW.exit ?_
    refine XQ.seq ?_
    refine XQ.seq ?_
    refine XQ.hit ?_
    refine NQ.seq ?_
    refine CW.seq ?_
    refine CW.region (ef := []) (bk := []) ?_
    refine RL.callvq (works_ok) Try.call35 rfl rfl rfl rfl ?_
    refine RL.assign rfl rfl rfl rfl ?_
    refine RL.nil ?_
    refine NQ.seq ?_
    refine CW.only (.cons (k := 6) rfl .nil) ?_
    refine CW.ret ?_
    exact RQ.post (res1 rfl rfl) (Split.none _) ⟨rfl, rfl, rfl⟩
theorem cusumPlays_call (W : World) (slack most : Int) (x : Sl Act23) (h1 : rFix.ok slack) (h2 : rFix.ok most) (hx : rActs23.ok x) (_ : ∀ y ∈ rFix.its slack, y.A W) (_ : ∀ y ∈ rFix.its most, y.A W) (tx : ∀ y ∈ rActs23.its x, y.A W) :
    Calls Try.prog 6 #[rFix.val slack, rFix.val most, rActs23.val x] W (fun e w' => e = .returned (.bool true) ∧ RowKit.Below W.heap.size W w') := by
  have ht : ∀ y ∈ [sls x.p 4 x.l.length (x.l.flatMap Act23.cells)], y.A W := fun y hy => by
    rw [List.mem_singleton] at hy; subst hy; exact tx _ (List.Mem.head _)
  exact (cplays x.p x.c x.l slack most hx.2.2.2 hx.1 (wfk_bounds h1).2 (wfk_bounds h2).2).lawI ht
end Go.Proofs.Ytggmnhogmjglmaa
