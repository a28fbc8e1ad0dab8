import Derived.Test.YtggmnhogmjglmaaWide
namespace Go.Proofs.Ytggmnhogmjglmaa
open Go.PK

/-! ### Places and pairs -/
def pl (p : Int × Int) : Value := .agg #[.int .i64 p.1, .int .i64 p.2]
def pr (p : Int × Int) : Value := .agg #[.int .i64 p.1, .int .i64 p.2]
def goodPl (v : Value) : Prop := ∃ p, v = pl p

theorem pl_inj {p q : Int × Int} : pl p = pl q ↔ p = q := by
  obtain ⟨a, b⟩ := p; obtain ⟨c, d⟩ := q
  simp [pl]

theorem same_pl (p q : Int × Int) : same (pl p) (pl q) = (p.1 == q.1 && p.2 == q.2) := by
  rw [Bool.eq_iff_iff, same_iff, pl_inj]
  obtain ⟨a, b⟩ := p; obtain ⟨c, d⟩ := q
  simp

theorem keyPl : KeyT Try.prog 79 goodPl where
  desc := ⟨_, Try.runUnderlying79, fun a b _ _ => .inl (by cases a <;> cases b <;> rfl)⟩
  eq := by
    rintro _ _ ⟨⟨a, b⟩, rfl⟩ ⟨⟨c, d⟩, rfl⟩ w
    rw [same_pl]
    simp [pl, Op.equal, Op.maxDepth, run_equalIn_struct, Program.fieldsOf, Op.eqFields, Go.part, go_sem]
    by_cases h1 : a = c <;> by_cases h2 : b = d <;> simp [h1, h2]
  chk := by
    rintro _ ⟨⟨a, b⟩, rfl⟩ e w
    have : ∀ n, (Instr.checkKey e (n + 2) 79 (.agg #[.int .i64 a, .int .i64 b])).run Try.prog w = .ok () w := by
      intro n
      simp [Instr.checkKey, Go.part, go_sem]
    exact this 9998
  bits := by
    rintro _ ⟨⟨a, b⟩, rfl⟩
    simp [pl, Instr.sameBits]

theorem eqs_pair (x0 x1 y0 y1 : Int) (x y : Operand) (w : World) : (do eqGuard .eql 107 x y (.agg #[.int .i64 x0, .int .i64 x1]) (.agg #[.int .i64 y0, .int .i64 y1]); binOp .eql 107 (.agg #[.int .i64 x0, .int .i64 x1]) (.agg #[.int .i64 y0, .int .i64 y1]) : Sem Value).run Try.prog w = .ok (.bool (x0 == y0 && x1 == y1)) w := by
  simp [run_eqGuard_agg, run_eql_struct, run_equalIn_struct, Program.fieldsOf, Op.eqFields, Go.part, go_sem]
  by_cases h1 : x0 = y0 <;> by_cases h2 : x1 = y1 <;> simp [h1, h2]

/-! ### What a monitor holds -/
abbrev Held := List ((Int × Int) × (Int × Int))
def enc (c : Held) : List (Value × Value) := c.map fun x => (pl x.1, pr x.2)
def lk (p : Int × Int) : Held → Option (Int × Int)
  | [] => none
  | (q, v) :: r => if p = q then some v else lk p r
def put (p v : Int × Int) : Held → Held
  | [] => [(p, v)]
  | (q, u) :: r => if p = q then (p, v) :: r else (q, u) :: put p v r
def del (p : Int × Int) : Held → Held
  | [] => []
  | (q, u) :: r => if p = q then r else (q, u) :: del p r
def at0 (p : Int × Int) (c : Held) : Int × Int := (lk p c).getD (0, 0)

theorem look_enc (p : Int × Int) : ∀ c : Held, lookV (pl p) (enc c) = (lk p c).map pr
  | [] => rfl
  | (q, v) :: r => by
    have ih := look_enc p r
    by_cases h : p = q
    · subst h; simp [enc, lookV, lk]
    · have h' : ¬ pl p = pl q := fun e => h (pl_inj.1 e)
      simp only [enc] at ih
      simp [enc, lookV, lk, h, h', ih]
theorem set_enc (p v : Int × Int) : ∀ c : Held, setV (pl p) (pr v) (enc c) = enc (put p v c)
  | [] => rfl
  | (q, u) :: r => by
    have ih := set_enc p v r
    by_cases h : p = q
    · subst h; simp [enc, setV, put]
    · have h' : ¬ pl p = pl q := fun e => h (pl_inj.1 e)
      simp only [enc] at ih
      simp [enc, setV, put, h, h', ih]
theorem del_enc (p : Int × Int) : ∀ c : Held, delV (pl p) (enc c) = enc (del p c)
  | [] => rfl
  | (q, u) :: r => by
    have ih := del_enc p r
    by_cases h : p = q
    · subst h; simp [enc, delV, del]
    · have h' : ¬ pl p = pl q := fun e => h (pl_inj.1 e)
      simp only [enc] at ih
      simp [enc, delV, del, h, h', ih]
theorem at_enc (p : Int × Int) (c : Held) : (lookV (pl p) (enc c)).getD (.agg #[.int .i64 0, .int .i64 0]) = pr (at0 p c) := by
  rw [look_enc, at0]
  cases lk p c <;> rfl

/-- A monitor's two things. -/
def mon (b : Nat) (r : Nat) (slack most : Int) : It := cel b [.int .i64 slack, .int .i64 most, .map (some r)] 100
def sumsOf (r : Nat) (c : Held) : It := mapI r goodPl (enc c)

theorem is_yes (b r : Nat) (slack most : Int) : Spc Try.prog 41 #[.pointer (some ⟨b, 0, none⟩)] [mon b r slack most] [] (Is (.bool true)) := by
  unfold mon
  refine Spc.enter Try.func41 rfl rfl rfl (fun w0 hw0 => ?_)
  refine CW.seq ?_
  refine CW.region (ef := []) (bk := []) ?_
  refine RL.assign rfl rfl rfl rfl ?_
  refine RL.nil ?_
  refine NQ.seq ?_
  refine CW.seq ?_
  refine CW.region (ef := []) (bk := []) ?_
  refine RL.move rfl rfl rfl rfl ?_
  refine RL.cmp rfl rfl rfl rfl rfl (neq_ptr Try.runUnderlying72 _) ?_
  refine RL.move rfl rfl rfl rfl ?_
  refine RL.move rfl rfl rfl rfl ?_
  refine RL.nilCheck rfl rfl rfl rfl ?_
  refine RL.fieldAddr fa_100_2 rfl rfl rfl rfl ?_
  refine RL.loadq Try.isAgg98 rfl rfl rfl rfl ?_
  refine RL.cmp rfl rfl rfl rfl rfl (neq_map Try.runUnderlying98 _) ?_
  refine RL.pickT rfl rfl rfl rfl rfl ?_
  refine RL.assign rfl rfl rfl rfl ?_
  refine RL.nil ?_
  refine NQ.seq ?_
  refine CW.only (.cons (k := 2) rfl .nil) ?_
  refine CW.ret ?_
  exact RQ.post (res1 rfl rfl) (Split.none _) ⟨rfl, rfl, rfl⟩

theorem source_any (n : Int) : Spc Try.prog 42 #[.int .i64 n] [] [] (Is (.bool (decide (0 ≤ n ∧ n < 8)))) := by
  refine Spc.enter Try.func42 rfl rfl rfl (fun w0 hw0 => ?_)
  refine CW.seq ?_
  refine CW.region (ef := []) (bk := []) ?_
  refine RL.assign rfl rfl rfl rfl ?_
  refine RL.nil ?_
  refine NQ.seq ?_
  refine CW.seq ?_
  refine CW.region (ef := []) (bk := []) ?_
  refine RL.move rfl rfl rfl rfl ?_
  refine RL.bin rfl rfl rfl rfl rfl rfl ?_
  refine RL.move rfl rfl rfl rfl ?_
  refine RL.part (d := 5) rfl (fun h => ?_) (fun h => ?_)
  ·
    refine RL.move rfl rfl rfl rfl ?_
    refine RL.bin rfl rfl rfl rfl rfl rfl ?_
    refine RL.pickT rfl rfl rfl rfl rfl ?_
    refine RL.assign rfl rfl rfl rfl ?_
    refine RL.nil ?_
    refine NQ.seq ?_
    refine CW.only (.cons (k := 2) rfl .nil) ?_
    refine CW.ret ?_
    refine RQ.post (res1 rfl rfl) (Split.none _) ⟨?_, rfl, rfl⟩
    simp at h ⊢; omega
  ·
    refine RL.skip rfl rfl rfl rfl ?_
    refine RL.skip rfl rfl rfl rfl ?_
    refine RL.pickF rfl rfl rfl rfl rfl ?_
    refine RL.assign rfl rfl rfl rfl ?_
    refine RL.nil ?_
    refine NQ.seq ?_
    refine CW.only (.cons (k := 2) rfl .nil) ?_
    refine CW.ret ?_
    refine RQ.post (res1 rfl rfl) (Split.none _) ⟨?_, rfl, rfl⟩
    simp at h ⊢; omega

theorem drifts_any (b r : Nat) (slack most u d : Int) : Spc Try.prog 44 #[.pointer (some ⟨b, 0, none⟩), .agg #[.int .i64 u, .int .i64 d]] [mon b r slack most] [] (Is (.bool (decide (max u d > most)))) := by
  unfold mon
  refine Spc.enter Try.func44 rfl rfl rfl (fun w0 hw0 => ?_)
  refine CW.seq ?_
  refine CW.region (ef := [0]) (bk := []) ?_
  refine RL.box rfl rfl rfl rfl rfl rfl ?_
  intro b1
  refine RL.assign rfl rfl rfl rfl ?_
  refine RL.nil ?_
  refine NQ.seq ?_
  refine CW.seq ?_
  refine CW.regionD (Sq.of [0, 1, 2, 3, 4, 5, 6, 7, 8, 9, 10]) [] [] [0, 2, 4, 5, 6, 7, 9, 10] mixed (by kernel_rfl) ?_
  refine RL.fieldAddr fa_107_0 rfl rfl rfl rfl ?_
  refine RL.loadq Try.isAgg70 rfl rfl rfl rfl ?_
  refine RL.fieldAddr fa_107_1 rfl rfl rfl rfl ?_
  refine RL.loadq Try.isAgg70 rfl rfl rfl rfl ?_
  refine RL.max rfl rfl rfl rfl rfl ?_
  refine RL.move rfl rfl rfl rfl ?_
  refine RL.nilCheck rfl rfl rfl rfl ?_
  refine RL.fieldAddr fa_100_1 rfl rfl rfl rfl ?_
  refine RL.loadq Try.isAgg70 rfl rfl rfl rfl ?_
  refine RL.bin rfl rfl rfl rfl rfl rfl ?_
  refine RL.assign rfl rfl rfl rfl ?_
  refine RL.nil ?_
  refine NQ.seq ?_
  refine CW.only (.cons (k := 4) rfl .nil) ?_
  refine CW.ret ?_
  exact RQ.post (res1 rfl rfl) (Split.none _) ⟨rfl, rfl, rfl⟩

theorem new_yes (slack most : Int) (h1 : 0 ≤ slack) (h2 : 0 < most) : Spc Try.prog 26 #[.int .i64 slack, .int .i64 most] [] []
    (fun v I' H' => ∃ b r, v = .tuple #[.pointer (some ⟨b, 0, none⟩), .int .i64 0] ∧ I' = [] ∧ H' = [mon b r slack most, sumsOf r []]) := by
  refine Spc.enter Try.func26 rfl rfl rfl (fun w0 hw0 => ?_)
  refine CW.seq ?_
  refine CW.region (ef := []) (bk := []) ?_
  refine RL.assign rfl rfl rfl rfl ?_
  refine RL.assign rfl rfl rfl rfl ?_
  refine RL.nil ?_
  refine NQ.seq ?_
  refine CW.seq ?_
  refine CW.seq ?_
  refine CW.region (ef := []) (bk := []) ?_
  refine RL.move rfl rfl rfl rfl ?_
  refine RL.bin rfl rfl rfl rfl rfl rfl ?_
  refine RL.move rfl rfl rfl rfl ?_
  refine RL.cast (d := 8) (v' := .bool false) rfl ((by simp; omega)) ?_
  refine RL.move rfl rfl rfl rfl ?_
  refine RL.bin rfl rfl rfl rfl rfl rfl ?_
  refine RL.pickF rfl rfl rfl rfl rfl ?_
  refine RL.nil ?_
  refine NQ.seq ?_
  refine CW.condF rfl ((by simp; omega)) ?_
  refine CW.skip ?_
  refine NQ.seq ?_
  refine CW.only (.cons (k := 0) rfl (.cons (k := 1) rfl .nil)) ?_
  refine CW.seq ?_
  refine CW.region (ef := [2, 4]) (bk := []) ?_
  refine RL.move rfl rfl rfl rfl ?_
  refine RL.move rfl rfl rfl rfl ?_
  refine RL.makeMap (good := goodPl) rfl rfl rfl rfl (fun r => ?_)
  refine RL.buildS [_, _, _] Try.zeroValue100 pl_100 rfl rfl rfl rfl rfl ?_
  refine RL.box rfl rfl rfl rfl rfl rfl ?_
  intro b1
  refine RL.assign rfl rfl rfl rfl ?_
  refine RL.assign rfl rfl rfl rfl ?_
  refine RL.nil ?_
  refine NQ.seq ?_
  refine CW.only (.cons (k := 4) rfl (.cons (k := 5) rfl .nil)) ?_
  refine CW.ret ?_
  exact RQ.post (res2 rfl rfl rfl) (.keep (.keep .nil)) ⟨b1, r, rfl, rfl, rfl⟩

/-- What becomes of a place's sums. -/
def nextP (slack x : Int) (p : Int × Int) : Int × Int := (max (clip (p.1 + x - slack)) 0, max (clip (p.2 - x - slack)) 0)
def upd (p v : Int × Int) (c : Held) : Held := if v = (0, 0) then del p c else put p v c
def isMax (n : Int) : Prop := 0 ≤ n ∧ n ≤ 9223372036854775807
def Bd (c : Held) : Prop := ∀ x ∈ c, isMax x.2.1 ∧ isMax x.2.2

theorem lk_bd {p : Int × Int} : ∀ {c : Held}, Bd c → isMax (at0 p c).1 ∧ isMax (at0 p c).2
  | [], _ => by simp [at0, lk, isMax]
  | (q, v) :: r, h => by
    by_cases hp : p = q
    · simpa [at0, lk, hp] using h (q, v) (by simp)
    · simpa [at0, lk, hp] using lk_bd (p := p) (c := r) (fun x hx => h x (by simp [hx]))

theorem inv_i64 (n : Int) (h : -9223372036854775808 ≤ n ∧ n ≤ 9223372036854775807) : inv .i64 n = -n - 1 := by
  have h1 : BitVec.ofInt 64 (-1) ^^^ BitVec.ofInt 64 n = ~~~ BitVec.ofInt 64 n := by
    rw [show BitVec.ofInt 64 (-1) = BitVec.allOnes 64 from rfl, BitVec.allOnes_xor]
  show IntKind.i64.wrap ((BitVec.ofInt 64 (-1) ^^^ BitVec.ofInt 64 n).toNat : Int) = _
  rw [h1, IntKind.wrap_i64, BitVec.toNat_not, BitVec.toNat_ofInt]
  omega

theorem step_ok (b r : Nat) (slack most s a x : Int) (c : Held) (hs : 0 ≤ s ∧ s < 8) (ha : 0 ≤ a ∧ a < 3) (hsl : isMax slack) (hm : 0 ≤ most) (hx : -9223372036854775808 ≤ x ∧ x ≤ 9223372036854775807) (hc : Bd c) :
    Spc Try.prog 30 #[.pointer (some ⟨b, 0, none⟩), pl (s, a), .int .i64 x] [] [mon b r slack most, sumsOf r c]
    (fun v I' H' => v = .tuple #[.bool (decide (max (nextP slack x (at0 (s, a) c)).1 (nextP slack x (at0 (s, a) c)).2 > most)), .int .i64 0] ∧ I' = [] ∧ H' = [mon b r slack most, sumsOf r (upd (s, a) (nextP slack x (at0 (s, a) c)) c)]) := by
  unfold mon sumsOf pl
  have hk := lk_bd (p := (s, a)) hc
  have hsl' := hsl; unfold isMax at hsl'
  refine Spc.enter Try.func30 rfl rfl rfl (fun w0 hw0 => ?_)
  refine CW.seq ?_
  refine CW.region (ef := [0]) (bk := []) ?_
  refine RL.box rfl rfl rfl rfl rfl rfl ?_
  intro b1
  refine RL.assign rfl rfl rfl rfl ?_
  refine RL.assign rfl rfl rfl rfl ?_
  refine RL.nil ?_
  refine NQ.seq ?_
  refine CW.seq ?_
  refine CW.block ?_
  refine CW.seq ?_
  refine CW.region (ef := []) (bk := []) ?_
  refine RL.move rfl rfl rfl rfl ?_
  refine RL.callvq (is_yes _ _ _ _) Try.call41 rfl rfl rfl rfl ?_
  refine RL.not rfl rfl rfl rfl ?_
  refine RL.assign rfl rfl rfl rfl ?_
  refine RL.nil ?_
  refine NQ.seq ?_
  refine CW.condF rfl (rfl) ?_
  refine CW.seq ?_
  refine CW.region (ef := []) (bk := []) ?_
  refine RL.fieldAddr fa_79_0 rfl rfl rfl rfl ?_
  refine RL.loadq Try.isAgg3 rfl rfl rfl rfl ?_
  refine RL.callvq (source_any _) Try.call42 rfl rfl rfl rfl ?_
  refine RL.not rfl rfl rfl rfl ?_
  refine RL.move rfl rfl rfl rfl ?_
  refine RL.cast (d := 22) (v' := .bool false) rfl ((by simp; omega)) ?_
  refine RL.fieldAddr fa_79_1 rfl rfl rfl rfl ?_
  refine RL.loadq Try.isAgg3 rfl rfl rfl rfl ?_
  refine RL.bin rfl rfl rfl rfl rfl rfl ?_
  refine RL.pickF rfl rfl rfl rfl rfl ?_
  refine RL.move rfl rfl rfl rfl ?_
  refine RL.cast (d := 27) (v' := .bool false) rfl ((by simp; omega)) ?_
  refine RL.fieldAddr fa_79_1 rfl rfl rfl rfl ?_
  refine RL.loadq Try.isAgg3 rfl rfl rfl rfl ?_
  refine RL.bin rfl rfl rfl rfl rfl rfl ?_
  refine RL.pickF rfl rfl rfl rfl rfl ?_
  refine RL.assign rfl rfl rfl rfl ?_
  refine RL.nil ?_
  refine NQ.seq ?_
  refine CW.only (.cons (k := 0) rfl (.cons (k := 2) rfl (.cons (k := 4) rfl (.cons (k := 6) rfl (.cons (k := 7) rfl (.cons (k := 17) rfl .nil)))))) ?_
  refine CW.condF rfl ((by simp; omega)) ?_
  refine CW.skip ?_
  refine NQ.block ?_
  refine NQ.seq ?_
  refine CW.seq ?_
  refine CW.regionD (Sq.of [0, 1, 2, 3, 4, 5, 6, 7]) [6, 7] [7] [0, 1, 2] mixed (by kernel_rfl) ?_
  refine RL.move rfl rfl rfl rfl ?_
  refine RL.nilCheck rfl rfl rfl rfl ?_
  refine RL.fieldAddr fa_100_2 rfl rfl rfl rfl ?_
  refine RL.loadq Try.isAgg98 rfl rfl rfl rfl ?_
  refine RL.loadN (vs := [_, _]) Try.isAgg79 Try.sizeOf79 rfl rfl rfl rfl (by first | (apply Rds.cel; (solve | (repeat (first | exact List.Mem.head _ | apply List.Mem.tail))); exact at_spec ⟨rfl, rfl, trivial⟩) | (apply Rds.celI; (solve | (repeat (first | exact List.Mem.head _ | apply List.Mem.tail))); exact at_spec ⟨rfl, rfl, trivial⟩) | assumption | (apply RdsI.rds; assumption)) ?_
  refine RL.lookup keyPl Try.runUnderlying98 Try.zeroValue107 rfl rfl rfl rfl rfl ⟨(s, a), rfl⟩ (MapAt.own (List.Mem.tail _ (List.Mem.tail _ (List.Mem.head _)))) ?_
  refine RL.cast (d := 37) rfl (at_enc (s, a) c) ?_
  refine RL.alloc Try.zeroValue107 rfl rfl rfl rfl rfl ?_
  intro b2
  refine RL.store (vs := [_, _]) Try.sizeOf107 rfl rfl rfl rfl rfl rfl rfl rfl rfl (by repeat (first | exact Upd.here | apply Upd.there)) ?_
  refine RL.nil ?_
  refine NQ.seq ?_
  refine CW.only (.cons (k := 0) rfl (.cons (k := 2) rfl (.cons (k := 4) rfl (.cons (k := 8) rfl .nil)))) ?_
  refine CW.seq ?_
  refine CW.regionD (Sq.of [0, 1, 2, 3, 4, 5, 6, 7, 8, 9, 10, 11, 12, 13, 14]) [8, 9] [] [0, 2, 3, 4, 5, 7, 10, 11, 12, 13, 14] mixed (by kernel_rfl) ?_
  refine RL.fieldAddr fa_107_0 rfl rfl rfl rfl ?_
  refine RL.loadq Try.isAgg70 rfl rfl rfl rfl ?_
  refine RL.move rfl rfl rfl rfl ?_
  refine RL.move rfl rfl rfl rfl ?_
  refine RL.nilCheck rfl rfl rfl rfl ?_
  refine RL.fieldAddr fa_100_0 rfl rfl rfl rfl ?_
  refine RL.loadq Try.isAgg70 rfl rfl rfl rfl ?_
  refine RL.neg rfl rfl rfl rfl ?_
  refine RL.buildSlice [_, _, _] Try.runUnderlying112 Try.sizeOf70 Try.zeroValue70 rfl rfl (by decide) (by decide) rfl rfl rfl rfl rfl rfl ?_
  intro b3
  have hk' := hk; unfold isMax at hk'
  generalize hq : at0 (s, a) c = q at hk hk' ⊢
  have e1 : isum [q.1, x, IntKind.i64.wrap (0 - slack)] = q.1 + x - slack := by
    simp only [isum, IntKind.wrap_i64]; omega
  have e2 : isum [q.2, inv .i64 x, 1, IntKind.i64.wrap (0 - slack)] = q.2 - x - slack := by
    simp only [isum, IntKind.wrap_i64, inv_i64 x hx]; omega
  refine RL.callv (fixSum _ [q.1, x, IntKind.i64.wrap (0 - slack)] _ (by simp) (by intro z hz; simp only [List.mem_cons, List.not_mem_nil, or_false] at hz; rcases hz with rfl | rfl | rfl <;> (try simp only [IntKind.wrap_i64]) <;> omega)) Try.call43 rfl rfl rfl rfl (.all (List.Mem.head _) rfl .nil) ?_
  refine RL.cast (d := 48) rfl (congrArg (fun z => Value.tuple #[.int .i64 (clip z), .bool (cut z)]) e1) ?_
  refine RL.move rfl rfl rfl rfl ?_
  refine RL.extract rfl rfl rfl rfl rfl ?_
  refine RL.extract rfl rfl rfl rfl rfl ?_
  refine RL.assign rfl rfl rfl rfl ?_
  refine RL.assign rfl rfl rfl rfl ?_
  refine RL.nil ?_
  refine NQ.seq ?_
  refine CW.only (.cons (k := 0) rfl (.cons (k := 2) rfl (.cons (k := 4) rfl (.cons (k := 8) rfl (.cons (k := 9) rfl .nil))))) ?_
  refine CW.seq ?_
  refine CW.regionD (Sq.of [0, 1, 2, 3, 4, 5, 6, 7, 8, 9, 10, 11, 12, 13, 14, 15]) [9, 10] [] [0, 2, 3, 4, 5, 6, 8, 11, 12, 13, 14, 15] mixed (by kernel_rfl) ?_
  refine RL.fieldAddr fa_107_1 rfl rfl rfl rfl ?_
  refine RL.loadq Try.isAgg70 rfl rfl rfl rfl ?_
  refine RL.move rfl rfl rfl rfl ?_
  refine RL.inv rfl rfl rfl rfl ?_
  refine RL.move rfl rfl rfl rfl ?_
  refine RL.nilCheck rfl rfl rfl rfl ?_
  refine RL.fieldAddr fa_100_0 rfl rfl rfl rfl ?_
  refine RL.loadq Try.isAgg70 rfl rfl rfl rfl ?_
  refine RL.neg rfl rfl rfl rfl ?_
  refine RL.buildSlice [_, _, _, _] Try.runUnderlying112 Try.sizeOf70 Try.zeroValue70 rfl rfl (by decide) (by decide) rfl rfl rfl rfl rfl rfl ?_
  intro b4
  refine RL.callv (fixSum _ [q.2, inv .i64 x, 1, IntKind.i64.wrap (0 - slack)] _ (by simp) (by intro z hz; simp only [List.mem_cons, List.not_mem_nil, or_false] at hz; rcases hz with rfl | rfl | rfl | rfl <;> (try simp only [IntKind.wrap_i64, inv_i64 x hx]) <;> omega)) Try.call43 rfl rfl rfl rfl (.all (List.Mem.head _) rfl .nil) ?_
  refine RL.cast (d := 62) rfl (congrArg (fun z => Value.tuple #[.int .i64 (clip z), .bool (cut z)]) e2) ?_
  refine RL.move rfl rfl rfl rfl ?_
  refine RL.extract rfl rfl rfl rfl rfl ?_
  refine RL.extract rfl rfl rfl rfl rfl ?_
  refine RL.assign rfl rfl rfl rfl ?_
  refine RL.assign rfl rfl rfl rfl ?_
  refine RL.nil ?_
  refine NQ.seq ?_
  refine CW.only (.cons (k := 0) rfl (.cons (k := 4) rfl (.cons (k := 8) rfl (.cons (k := 9) rfl (.cons (k := 11) rfl .nil))))) ?_
  refine CW.seq ?_
  refine CW.region (ef := [5]) (bk := [5]) ?_
  refine RL.move rfl rfl rfl rfl ?_
  refine RL.max rfl rfl rfl rfl rfl ?_
  refine RL.move rfl rfl rfl rfl ?_
  refine RL.max rfl rfl rfl rfl rfl ?_
  refine RL.buildS [_, _] Try.zeroValue107 pl_107 rfl rfl rfl rfl rfl ?_
  refine RL.store (vs := [_, _]) Try.sizeOf107 rfl rfl rfl rfl rfl rfl rfl rfl rfl (by repeat (first | exact Upd.here | apply Upd.there)) ?_
  refine RL.nil ?_
  refine NQ.seq ?_
  refine CW.only (.cons (k := 0) rfl (.cons (k := 4) rfl (.cons (k := 8) rfl .nil))) ?_
  refine CW.seq ?_
  refine CW.seq ?_
  refine CW.region (ef := []) (bk := []) ?_
  refine RL.loadN (vs := [_, _]) Try.isAgg107 Try.sizeOf107 rfl rfl rfl rfl (by first | (apply Rds.cel; (solve | (repeat (first | exact List.Mem.head _ | apply List.Mem.tail))); exact at_spec ⟨rfl, rfl, trivial⟩) | (apply Rds.celI; (solve | (repeat (first | exact List.Mem.head _ | apply List.Mem.tail))); exact at_spec ⟨rfl, rfl, trivial⟩) | assumption | (apply RdsI.rds; assumption)) ?_
  refine RL.buildS _ Try.zeroValue107 pl_107 rfl rfl rfl rfl rfl ?_
  refine RL.cmp rfl rfl rfl rfl rfl (eqs_pair _ _ _ _ _ _) ?_
  refine RL.nil ?_
  refine NQ.seq ?_
  have hnp : nextP slack x q = (max (clip (q.1 + x - slack)) 0, max (clip (q.2 - x - slack)) 0) := rfl
  refine CW.cond rfl (fun hz => ?_) (fun hz => ?_)
  ·
    refine CW.seq ?_
    refine CW.regionD (Sq.of [0, 1, 2, 3, 4, 5]) [5] [5] [0, 1, 2] mixed (by kernel_rfl) ?_
    refine RL.move rfl rfl rfl rfl ?_
    refine RL.nilCheck rfl rfl rfl rfl ?_
    refine RL.fieldAddr fa_100_2 rfl rfl rfl rfl ?_
    refine RL.loadq Try.isAgg98 rfl rfl rfl rfl ?_
    refine RL.loadN (vs := [_, _]) Try.isAgg79 Try.sizeOf79 rfl rfl rfl rfl (by first | (apply Rds.cel; (solve | (repeat (first | exact List.Mem.head _ | apply List.Mem.tail))); exact at_spec ⟨rfl, rfl, trivial⟩) | (apply Rds.celI; (solve | (repeat (first | exact List.Mem.head _ | apply List.Mem.tail))); exact at_spec ⟨rfl, rfl, trivial⟩) | assumption | (apply RdsI.rds; assumption)) ?_
    refine RL.delete keyPl Try.runUnderlying98 rfl rfl rfl rfl rfl rfl ⟨(s, a), rfl⟩ (by repeat (first | exact Upd.here | apply Upd.there)) ?_
    refine RL.nil ?_
    refine NQ.seq ?_
    refine CW.only (.cons (k := 0) rfl (.cons (k := 4) rfl (.cons (k := 8) rfl .nil))) ?_
    refine CW.seq ?_
    refine CW.region (ef := []) (bk := []) ?_
    refine RL.assign rfl rfl rfl rfl ?_
    refine RL.assign rfl rfl rfl rfl ?_
    refine RL.nil ?_
    refine NQ.seq ?_
    refine CW.ret ?_
    refine RQ.seq ?_
    have hz' : nextP slack x q = (0, 0) := by
      simp only [Bool.and_eq_true, beq_iff_eq] at hz
      rw [hnp, hz.1, hz.2]
    refine RQ.post (res2 rfl rfl rfl) (.drop (.drop (.drop (.drop (.keep (.keep .nil)))))) ⟨?_, rfl, ?_⟩
    · rw [hz']
      have : decide (max (0 : Int) 0 > most) = false := by simp; omega
      rw [this]
    · rw [hz', upd, if_pos rfl, ← del_enc]
      rfl
  ·
    refine CW.skip ?_
    refine NQ.seq ?_
    refine CW.seq ?_
    refine CW.regionD (Sq.of [0, 1, 2, 3, 4, 5, 6]) [6] [6] [0, 1, 2] mixed (by kernel_rfl) ?_
    refine RL.move rfl rfl rfl rfl ?_
    refine RL.nilCheck rfl rfl rfl rfl ?_
    refine RL.fieldAddr fa_100_2 rfl rfl rfl rfl ?_
    refine RL.loadq Try.isAgg98 rfl rfl rfl rfl ?_
    refine RL.loadN (vs := [_, _]) Try.isAgg79 Try.sizeOf79 rfl rfl rfl rfl (by first | (apply Rds.cel; (solve | (repeat (first | exact List.Mem.head _ | apply List.Mem.tail))); exact at_spec ⟨rfl, rfl, trivial⟩) | (apply Rds.celI; (solve | (repeat (first | exact List.Mem.head _ | apply List.Mem.tail))); exact at_spec ⟨rfl, rfl, trivial⟩) | assumption | (apply RdsI.rds; assumption)) ?_
    refine RL.loadN (vs := [_, _]) Try.isAgg107 Try.sizeOf107 rfl rfl rfl rfl (by first | (apply Rds.cel; (solve | (repeat (first | exact List.Mem.head _ | apply List.Mem.tail))); exact at_spec ⟨rfl, rfl, trivial⟩) | (apply Rds.celI; (solve | (repeat (first | exact List.Mem.head _ | apply List.Mem.tail))); exact at_spec ⟨rfl, rfl, trivial⟩) | assumption | (apply RdsI.rds; assumption)) ?_
    refine RL.mapUpdate keyPl Try.runUnderlying98 rfl rfl rfl rfl rfl rfl rfl ⟨(s, a), rfl⟩ (by repeat (first | exact Upd.here | apply Upd.there)) ?_
    refine RL.nil ?_
    refine NQ.seq ?_
    refine CW.only (.cons (k := 0) rfl (.cons (k := 8) rfl .nil)) ?_
    refine CW.seq ?_
    refine CW.region (ef := []) (bk := []) ?_
    refine RL.move rfl rfl rfl rfl ?_
    refine RL.loadN (vs := [_, _]) Try.isAgg107 Try.sizeOf107 rfl rfl rfl rfl (by first | (apply Rds.cel; (solve | (repeat (first | exact List.Mem.head _ | apply List.Mem.tail))); exact at_spec ⟨rfl, rfl, trivial⟩) | (apply Rds.celI; (solve | (repeat (first | exact List.Mem.head _ | apply List.Mem.tail))); exact at_spec ⟨rfl, rfl, trivial⟩) | assumption | (apply RdsI.rds; assumption)) ?_
    refine RL.callvq (drifts_any _ r slack most _ _) Try.call44 rfl rfl rfl rfl ?_
    refine RL.assign rfl rfl rfl rfl ?_
    refine RL.assign rfl rfl rfl rfl ?_
    refine RL.nil ?_
    refine NQ.seq ?_
    refine CW.ret ?_
    have hz' : nextP slack x q ≠ (0, 0) := by
      intro h
      rw [hnp, Prod.mk.injEq] at h
      rw [h.1, h.2] at hz
      simp at hz
    refine RQ.post (res2 rfl rfl rfl) (.drop (.drop (.drop (.drop (.keep (.keep .nil)))))) ⟨rfl, rfl, ?_⟩
    rw [upd, if_neg hz', ← set_enc]
    rfl

theorem sums_ok (b r : Nat) (slack most s a : Int) (c : Held) :
    Spc Try.prog 32 #[.pointer (some ⟨b, 0, none⟩), pl (s, a)] [mon b r slack most, sumsOf r c] [] (Is (.tuple #[.int .i64 (at0 (s, a) c).1, .int .i64 (at0 (s, a) c).2])) := by
  unfold mon sumsOf pl
  refine Spc.enter Try.func32 rfl rfl rfl (fun w0 hw0 => ?_)
  refine CW.seq ?_
  refine CW.region (ef := [0]) (bk := []) ?_
  refine RL.box rfl rfl rfl rfl rfl rfl ?_
  intro b1
  refine RL.assign rfl rfl rfl rfl ?_
  refine RL.assign rfl rfl rfl rfl ?_
  refine RL.nil ?_
  refine NQ.seq ?_
  refine CW.seq ?_
  refine CW.seq ?_
  refine CW.region (ef := []) (bk := []) ?_
  refine RL.move rfl rfl rfl rfl ?_
  refine RL.callvq (is_yes _ _ _ _) Try.call41 rfl rfl rfl rfl ?_
  refine RL.not rfl rfl rfl rfl ?_
  refine RL.nil ?_
  refine NQ.seq ?_
  refine CW.condF rfl (rfl) ?_
  refine CW.skip ?_
  refine NQ.seq ?_
  refine CW.only (.cons (k := 0) rfl (.cons (k := 3) rfl .nil)) ?_
  refine CW.seq ?_
  refine CW.regionD (Sq.of [0, 1, 2, 3, 4, 5, 6, 7]) [6, 7] [7] [0, 1, 2] mixed (by kernel_rfl) ?_
  refine RL.move rfl rfl rfl rfl ?_
  refine RL.nilCheck rfl rfl rfl rfl ?_
  refine RL.fieldAddr fa_100_2 rfl rfl rfl rfl ?_
  refine RL.loadq Try.isAgg98 rfl rfl rfl rfl ?_
  refine RL.loadN (vs := [_, _]) Try.isAgg79 Try.sizeOf79 rfl rfl rfl rfl (by first | (apply Rds.cel; (solve | (repeat (first | exact List.Mem.head _ | apply List.Mem.tail))); exact at_spec ⟨rfl, rfl, trivial⟩) | (apply Rds.celI; (solve | (repeat (first | exact List.Mem.head _ | apply List.Mem.tail))); exact at_spec ⟨rfl, rfl, trivial⟩) | assumption | (apply RdsI.rds; assumption)) ?_
  refine RL.lookup keyPl Try.runUnderlying98 Try.zeroValue107 rfl rfl rfl rfl rfl ⟨(s, a), rfl⟩ (MapAt.told (List.Mem.tail _ (List.Mem.head _))) ?_
  refine RL.cast (d := 15) rfl (at_enc (s, a) c) ?_
  refine RL.alloc Try.zeroValue107 rfl rfl rfl rfl rfl ?_
  intro b2
  refine RL.store (vs := [_, _]) Try.sizeOf107 rfl rfl rfl rfl rfl rfl rfl rfl rfl (by repeat (first | exact Upd.here | apply Upd.there)) ?_
  refine RL.nil ?_
  refine NQ.seq ?_
  refine CW.only (.cons (k := 6) rfl .nil) ?_
  refine CW.seq ?_
  refine CW.regionD (Sq.of [0, 1, 2, 3, 4, 5]) [] [] [0, 2, 4, 5] mixed (by kernel_rfl) ?_
  refine RL.fieldAddr fa_107_0 rfl rfl rfl rfl ?_
  refine RL.loadq Try.isAgg70 rfl rfl rfl rfl ?_
  refine RL.fieldAddr fa_107_1 rfl rfl rfl rfl ?_
  refine RL.loadq Try.isAgg70 rfl rfl rfl rfl ?_
  refine RL.assign rfl rfl rfl rfl ?_
  refine RL.assign rfl rfl rfl rfl ?_
  refine RL.nil ?_
  refine NQ.seq ?_
  refine CW.ret ?_
  exact RQ.post (res2 rfl rfl rfl) (Split.none _) ⟨rfl, rfl, rfl⟩

theorem works_ok : Spc Try.prog 35 #[] [] [] (Is (.bool true)) := by
  have hb0 : Bd [] := by intro x hx; cases hx
  have hb1 : Bd (upd (2, 1) (nextP 1 4 (at0 (2, 1) [])) []) := by
    have : upd (2, 1) (nextP 1 4 (at0 (2, 1) [])) [] = [((2, 1), (3, 0))] := by decide
    rw [this]
    intro x hx
    have : x = ((2, 1), (3, 0)) := by simpa using hx
    subst this; simp [isMax]
  refine Spc.enter Try.func35 rfl rfl rfl (fun w0 hw0 => ?_)
  refine CW.seq ?_
  refine CW.region (ef := []) (bk := []) ?_
  refine RL.assign rfl rfl rfl rfl ?_
  refine RL.nil ?_
  refine NQ.seq ?_
  refine CW.seq ?_
  refine CW.region (ef := [0]) (bk := []) ?_
  refine RL.callq (new_yes _ _ (by omega) (by omega)) Try.call26 rfl rfl rfl rfl rfl (.inl rfl) ?_
  rintro _ _ _ ⟨b, r, rfl, rfl, rfl⟩
  refine RL.move rfl rfl rfl rfl ?_
  refine RL.extract rfl rfl rfl rfl rfl ?_
  refine RL.extract rfl rfl rfl rfl rfl ?_
  refine RL.assign rfl rfl rfl rfl ?_
  refine RL.assign rfl rfl rfl rfl ?_
  refine RL.nil ?_
  refine NQ.seq ?_
  refine CW.seq ?_
  refine CW.seq ?_
  refine CW.region (ef := []) (bk := []) ?_
  refine RL.move rfl rfl rfl rfl ?_
  refine RL.cmp rfl rfl rfl rfl rfl (eql_ptr Try.runUnderlying72 _) ?_
  refine RL.nil ?_
  refine NQ.seq ?_
  refine CW.condF rfl (rfl) ?_
  refine CW.skip ?_
  refine NQ.seq ?_
  refine CW.only (.cons (k := 1) rfl (.cons (k := 2) rfl .nil)) ?_
  refine CW.seq ?_
  refine CW.region (ef := [2]) (bk := [2]) ?_
  refine RL.move rfl rfl rfl rfl ?_
  refine RL.buildS [_, _] Try.zeroValue79 pl_79 rfl rfl rfl rfl rfl ?_
  refine RL.callq (step_ok _ r 1 5 _ _ _ _ (by omega) (by omega) (by unfold isMax; omega) (by omega) (by omega) hb0) Try.call30 rfl rfl rfl rfl rfl (.inr rfl) ?_
  rintro _ _ _ ⟨rfl, rfl, rfl⟩
  refine RL.move rfl rfl rfl rfl ?_
  refine RL.extract rfl rfl rfl rfl rfl ?_
  refine RL.extract rfl rfl rfl rfl rfl ?_
  refine RL.assign rfl rfl rfl rfl ?_
  refine RL.assign rfl rfl rfl rfl ?_
  refine RL.nil ?_
  refine NQ.seq ?_
  refine CW.only (.cons (k := 1) rfl (.cons (k := 2) rfl (.cons (k := 3) rfl .nil))) ?_
  refine CW.seq ?_
  refine CW.region (ef := [2]) (bk := [2]) ?_
  refine RL.move rfl rfl rfl rfl ?_
  refine RL.buildS [_, _] Try.zeroValue79 pl_79 rfl rfl rfl rfl rfl ?_
  refine RL.callq (step_ok _ r 1 5 _ _ _ _ (by omega) (by omega) (by unfold isMax; omega) (by omega) (by omega) hb1) Try.call30 rfl rfl rfl rfl rfl (.inr rfl) ?_
  rintro _ _ _ ⟨rfl, rfl, rfl⟩
  refine RL.move rfl rfl rfl rfl ?_
  refine RL.extract rfl rfl rfl rfl rfl ?_
  refine RL.extract rfl rfl rfl rfl rfl ?_
  refine RL.assign rfl rfl rfl rfl ?_
  refine RL.assign rfl rfl rfl rfl ?_
  refine RL.nil ?_
  refine NQ.seq ?_
  refine CW.only (.cons (k := 1) rfl (.cons (k := 2) rfl (.cons (k := 3) rfl (.cons (k := 5) rfl .nil)))) ?_
  refine CW.seq ?_
  refine CW.region (ef := []) (bk := []) ?_
  refine RL.move rfl rfl rfl rfl ?_
  refine RL.buildS [_, _] Try.zeroValue79 pl_79 rfl rfl rfl rfl rfl ?_
  refine RL.callvq (sums_ok _ r 1 5 _ _ _) Try.call32 rfl rfl rfl rfl ?_
  refine RL.move rfl rfl rfl rfl ?_
  refine RL.extract rfl rfl rfl rfl rfl ?_
  refine RL.extract rfl rfl rfl rfl rfl ?_
  refine RL.assign rfl rfl rfl rfl ?_
  refine RL.assign rfl rfl rfl rfl ?_
  refine RL.nil ?_
  refine NQ.seq ?_
  refine CW.only (.cons (k := 2) rfl (.cons (k := 3) rfl (.cons (k := 5) rfl (.cons (k := 7) rfl (.cons (k := 8) rfl .nil))))) ?_
  refine CW.seq ?_
  refine CW.region (ef := []) (bk := []) ?_
  refine RL.move rfl rfl rfl rfl ?_
  refine RL.bin rfl rfl rfl rfl rfl rfl ?_
  refine RL.move rfl rfl rfl rfl ?_
  refine RL.move rfl rfl rfl rfl ?_
  refine RL.not rfl rfl rfl rfl ?_
  refine RL.pickT rfl rfl rfl rfl rfl ?_
  refine RL.move rfl rfl rfl rfl ?_
  refine RL.move rfl rfl rfl rfl ?_
  refine RL.pickT rfl rfl rfl rfl rfl ?_
  refine RL.move rfl rfl rfl rfl ?_
  refine RL.move rfl rfl rfl rfl ?_
  refine RL.bin rfl rfl rfl rfl rfl rfl ?_
  refine RL.pickT rfl rfl rfl rfl rfl ?_
  refine RL.move rfl rfl rfl rfl ?_
  refine RL.move rfl rfl rfl rfl ?_
  refine RL.bin rfl rfl rfl rfl rfl rfl ?_
  refine RL.pickT rfl rfl rfl rfl rfl ?_
  refine RL.assign rfl rfl rfl rfl ?_
  refine RL.nil ?_
  refine NQ.seq ?_
  refine CW.only (.cons (k := 0) rfl .nil) ?_
  refine CW.ret ?_
  exact RQ.post (res1 rfl rfl) (Split.none _) ⟨rfl, rfl, rfl⟩
end Go.Proofs.Ytggmnhogmjglmaa
