import Derived.Test.YtflpiaeffnoepaaWrite
import Derived.Test.YtflpiaeffnoepaaGet
import Derived.KernelRfl
namespace Go.Proofs.Ytflpiaeffnoepaa
open Go.PK

theorem fitI {q : IntKind} {n : Int} (h : wfk q n) : EK.fit (.int q) (.int q n) := And.intro rfl h
theorem fit8 (b : B8) : EK.fit (.int .u8) (U8 b) := show EK.fit (.int .u8) (.int .u8 b.toNat) from And.intro rfl (by have := b.isLt; simp only [wfk, Lit.wf, IntKind.min, IntKind.max, IntKind.signed, IntKind.bits, Bool.and_eq_true, decide_eq_true_eq, Bool.false_eq_true, if_false]; omega)
def shapeR : List EK := [.int .i64, .int .i32, .int .i32, .int .i32, .int .i32, .int .i32, .int .i32, .int .i64, .int .u32, .int .i32, .int .u32, .int .u32, .int .u8, .int .i64, .int .i64, .int .i64, .int .u8, .int .u8, .int .u8, .int .u8, .int .u8, .int .u8, .int .u8, .int .u8, .int .u8, .int .u8, .int .u8, .int .u8, .int .u8, .int .u8, .int .u8, .int .u8, .int .u8, .int .u8, .int .u8, .int .u8, .int .u8, .int .u8, .int .u8, .int .u8, .int .u8, .int .u8, .int .u8, .int .u8, .int .u8, .int .u8, .int .u8, .int .u8, .int .u64, .int .u8, .int .u32, .int .i64, .int .u32, .int .u8, .int .u8, .int .u16, .int .u64]
set_option maxRecDepth 10000
theorem shape_rdg : PK.shape Try.prog 4 33 = some shapeR := by kernel_rfl
theorem keyT_rdg : Try.prog.keyTypeAt 4 33 = true := by kernel_rfl
theorem wide_rdg : (match Try.prog.underlying 33 with | some (.array _ _) | some (.struct _) => true | _ => false) = true := by kernel_rfl
theorem cells_rdg : Try.prog.cellsOf 33 = shapeR.length := by kernel_rfl
theorem guard_rdg : Try.prog.eqGuardType Try.prog.depth 33 = false := by kernel_rfl
theorem Rdg.Ok.fits {r : Rdg} (h : r.Ok) : Fits shapeR r.cells := (Fits.cons (fitI h.kind) (Fits.cons (fitI h.g0) (Fits.cons (fitI h.g1) (Fits.cons (fitI h.g2) (Fits.cons (fitI h.a0) (Fits.cons (fitI h.a1) (Fits.cons (fitI h.a2) (Fits.cons (fitI h.height) (Fits.cons (fitI h.heading) (Fits.cons (fitI h.speed) (Fits.cons (fitI h.steps) (Fits.cons (fitI h.interval) (Fits.cons (fit8 _) (Fits.cons (fitI h.p0) (Fits.cons (fitI h.p1) (Fits.cons (fitI h.p2) (Fits.cons (fit8 _) (Fits.cons (fit8 _) (Fits.cons (fit8 _) (Fits.cons (fit8 _) (Fits.cons (fit8 _) (Fits.cons (fit8 _) (Fits.cons (fit8 _) (Fits.cons (fit8 _) (Fits.cons (fit8 _) (Fits.cons (fit8 _) (Fits.cons (fit8 _) (Fits.cons (fit8 _) (Fits.cons (fit8 _) (Fits.cons (fit8 _) (Fits.cons (fit8 _) (Fits.cons (fit8 _) (Fits.cons (fit8 _) (Fits.cons (fit8 _) (Fits.cons (fit8 _) (Fits.cons (fit8 _) (Fits.cons (fit8 _) (Fits.cons (fit8 _) (Fits.cons (fit8 _) (Fits.cons (fit8 _) (Fits.cons (fit8 _) (Fits.cons (fit8 _) (Fits.cons (fit8 _) (Fits.cons (fit8 _) (Fits.cons (fit8 _) (Fits.cons (fit8 _) (Fits.cons (fit8 _) (Fits.cons (fit8 _) (Fits.cons (fitI h.tick) (Fits.cons (fit8 _) (Fits.cons (fitI h.epoch) (Fits.cons (fitI h.bound) (Fits.cons (fitI h.flags) (Fits.cons (fit8 _) (Fits.cons (fit8 _) (Fits.cons (fitI h.fails) (Fits.cons (fitI h.counter) trivial)))))))))))))))))))))))))))))))))))))))))))))))))))))))))
theorem neq_rdg {a b : Rdg} (ha : a.Ok) (hb : b.Ok) {r : Bool} (hr : r = true ↔ a.cells = b.cells) (x y : Operand) (w : World) : (do eqGuard .neq 33 x y (.agg a.cells.toArray) (.agg b.cells.toArray); binOp .neq 33 (.agg a.cells.toArray) (.agg b.cells.toArray) : Sem Value).run Try.prog w = .ok (.bool (!r)) w :=
  neq_flat (by decide) keyT_rdg shape_rdg wide_rdg cells_rdg guard_rdg ha.fits hb.fits hr w
theorem eql_rdg {a b : Rdg} (ha : a.Ok) (hb : b.Ok) {r : Bool} (hr : r = true ↔ a.cells = b.cells) (x y : Operand) (w : World) : (do eqGuard .eql 33 x y (.agg a.cells.toArray) (.agg b.cells.toArray); binOp .eql 33 (.agg a.cells.toArray) (.agg b.cells.toArray) : Sem Value).run Try.prog w = .ok (.bool r) w :=
  eql_flat (by decide) keyT_rdg shape_rdg wide_rdg cells_rdg guard_rdg ha.fits hb.fits hr w

theorem wf_i32at (l : List B8) (o : Nat) : wfk .i32 (i32at l o) := by
  simp only [wfk, Lit.wf, i32at, IntKind.wrap, IntKind.min, IntKind.max, IntKind.signed, IntKind.bits, Bool.and_eq_true, decide_eq_true_eq]
  simp
  omega
theorem wf_i64at (l : List B8) (o : Nat) : wfk .i64 (i64at l o) := by
  simp only [wfk, Lit.wf, i64at, IntKind.wrap, IntKind.min, IntKind.max, IntKind.signed, IntKind.bits, Bool.and_eq_true, decide_eq_true_eq]
  simp
  omega
theorem wf_n4 (l : List B8) (o : Nat) : wfk .u32 (nat l o 4 : Int) := by
  have h := nat_lt l o 4
  simp only [wfk, Lit.wf, IntKind.min, IntKind.max, IntKind.signed, IntKind.bits, Bool.and_eq_true, decide_eq_true_eq, Bool.false_eq_true, if_false]
  omega
theorem wf_n2 (l : List B8) (o : Nat) : wfk .u16 (nat l o 2 : Int) := by
  have h := nat_lt l o 2
  simp only [wfk, Lit.wf, IntKind.min, IntKind.max, IntKind.signed, IntKind.bits, Bool.and_eq_true, decide_eq_true_eq, Bool.false_eq_true, if_false]
  omega
theorem wf_n8 (l : List B8) (o : Nat) : wfk .u64 (nat l o 8 : Int) := by
  have h := nat_lt l o 8
  simp only [wfk, Lit.wf, IntKind.min, IntKind.max, IntKind.signed, IntKind.bits, Bool.and_eq_true, decide_eq_true_eq, Bool.false_eq_true, if_false]
  omega
theorem rz_ok {k : Int} (h : wfk .i64 k) : (rz k).Ok := ⟨h, rfl, rfl, rfl, rfl, rfl, rfl, rfl, rfl, rfl, rfl, rfl, rfl, rfl, rfl, rfl, rfl, rfl, rfl, rfl, rfl⟩
theorem getR_ok {k : Int} (hk : wfk .i64 k) (l : List B8) : (getR k l).Ok := by
  unfold getR
  by_cases h1 : k = 1
  · rw [if_pos h1]; exact ⟨rfl, wf_i32at _ _, wf_i32at _ _, wf_i32at _ _, wf_i32at _ _, wf_i32at _ _, wf_i32at _ _, rfl, rfl, rfl, rfl, rfl, rfl, rfl, rfl, rfl, rfl, rfl, rfl, rfl, rfl⟩
  rw [if_neg h1]
  by_cases h2 : k = 2
  · rw [if_pos h2]; exact ⟨rfl, rfl, rfl, rfl, rfl, rfl, rfl, wf_i64at _ _, rfl, rfl, rfl, rfl, rfl, rfl, rfl, rfl, rfl, rfl, rfl, rfl, rfl⟩
  rw [if_neg h2]
  by_cases h3 : k = 3
  · rw [if_pos h3]; exact ⟨rfl, rfl, rfl, rfl, rfl, rfl, rfl, rfl, wf_n4 _ _, rfl, rfl, rfl, rfl, rfl, rfl, rfl, rfl, rfl, rfl, rfl, rfl⟩
  rw [if_neg h3]
  by_cases h4 : k = 4
  · rw [if_pos h4]; exact ⟨rfl, rfl, rfl, rfl, rfl, rfl, rfl, rfl, rfl, wf_i32at _ _, wf_n4 _ _, rfl, rfl, rfl, rfl, rfl, rfl, rfl, rfl, rfl, rfl⟩
  rw [if_neg h4]
  by_cases h5 : k = 5
  · rw [if_pos h5]; exact ⟨rfl, rfl, rfl, rfl, rfl, rfl, rfl, rfl, rfl, rfl, rfl, wf_n4 _ _, wf_i64at _ _, wf_i64at _ _, wf_i64at _ _, rfl, rfl, rfl, rfl, rfl, rfl⟩
  rw [if_neg h5]
  by_cases h6 : k = 6
  · rw [if_pos h6]; exact ⟨rfl, rfl, rfl, rfl, rfl, rfl, rfl, rfl, rfl, rfl, rfl, wf_n4 _ _, rfl, rfl, rfl, rfl, rfl, rfl, rfl, rfl, rfl⟩
  rw [if_neg h6]
  by_cases h7 : k = 7
  · rw [if_pos h7]; exact ⟨rfl, rfl, rfl, rfl, rfl, rfl, rfl, rfl, rfl, rfl, rfl, rfl, rfl, rfl, rfl, wf_n8 _ _, rfl, rfl, rfl, rfl, rfl⟩
  rw [if_neg h7]
  by_cases h8 : k = 8
  · rw [if_pos h8]; exact ⟨rfl, rfl, rfl, rfl, rfl, rfl, rfl, rfl, rfl, rfl, rfl, rfl, rfl, rfl, rfl, rfl, rfl, rfl, rfl, rfl, rfl⟩
  rw [if_neg h8]
  by_cases h10 : k = 10
  · rw [if_pos h10]; exact ⟨rfl, rfl, rfl, rfl, rfl, rfl, rfl, rfl, rfl, rfl, rfl, rfl, rfl, rfl, rfl, rfl, wf_n4 _ _, rfl, rfl, rfl, rfl⟩
  rw [if_neg h10]
  by_cases h12 : k = 12
  · rw [if_pos h12]; exact ⟨rfl, rfl, rfl, rfl, rfl, rfl, rfl, rfl, rfl, rfl, rfl, rfl, rfl, rfl, rfl, rfl, rfl, rfl, rfl, rfl, rfl⟩
  rw [if_neg h12]
  by_cases h13 : k = 13
  · rw [if_pos h13]; exact ⟨rfl, rfl, rfl, rfl, rfl, rfl, rfl, rfl, rfl, rfl, rfl, rfl, wf_i64at _ _, wf_i64at _ _, wf_i64at _ _, rfl, rfl, wf_i64at _ _, wf_n4 _ _, rfl, rfl⟩
  rw [if_neg h13]
  by_cases h14 : k = 14
  · rw [if_pos h14]; exact ⟨rfl, rfl, rfl, rfl, rfl, rfl, rfl, rfl, rfl, rfl, rfl, rfl, rfl, rfl, rfl, rfl, wf_n4 _ _, rfl, rfl, wf_n2 _ _, wf_n8 _ _⟩
  rw [if_neg h14]
  exact rz_ok hk
/-- What is put comes back. -/
def okP (r : Rdg) : Prop := ∃ x, gotR r.kind (bodyR r) = some x ∧ x.cells = r.cells
open Classical in
noncomputable def putB (r : Rdg) : List B8 := if okP r then bodyR r else []
open Classical in
noncomputable def putE (r : Rdg) : Int := if okP r then 0 else 120
def PutR (r : Rdg) : Value → List It → List It → Prop := fun v I' H' => ∃ ob cap, v = .tuple #[slO ob (putB r).length cap, .int .i64 (putE r)] ∧ I' = [] ∧ H' = [own ob cap 5 1 (putB r).length (bytes (putB r))]
theorem put_yes {r : Rdg} (h : okP r) : putB r = bodyR r ∧ putE r = 0 := ⟨if_pos h, if_pos h⟩
theorem put_no {r : Rdg} (h : ¬ okP r) : putB r = [] ∧ putE r = 120 := ⟨if_neg h, if_neg h⟩
end Go.Proofs.Ytflpiaeffnoepaa
