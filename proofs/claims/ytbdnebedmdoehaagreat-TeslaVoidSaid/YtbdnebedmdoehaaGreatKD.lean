import Derived.Test.YtbdnebedmdoehaaGreatKA
import Derived.Test.YtbdnebedmdoehaaGreatKB
import Derived.KernelRfl
import Derived.Test.YtbdnebedmdoehaaGreatKC
import Derived.Test.YtbdnebedmdoehaaGreatRNum12
import Derived.Test.YtbdnebedmdoehaaGreatOwnN
namespace Go.Proofs.YtbdnebedmdoehaaGreat
open Go.PK

/-- All numbers are of their kinds. -/
structure Rdg.Ok (r : Rdg) : Prop where
  kind : wfk .i64 r.kind
  g0 : wfk .i32 r.g0
  g1 : wfk .i32 r.g1
  g2 : wfk .i32 r.g2
  a0 : wfk .i32 r.a0
  a1 : wfk .i32 r.a1
  a2 : wfk .i32 r.a2
  height : wfk .i64 r.height
  heading : wfk .u32 r.heading
  speed : wfk .i32 r.speed
  steps : wfk .u32 r.steps
  interval : wfk .u32 r.interval
  p0 : wfk .i64 r.p0
  p1 : wfk .i64 r.p1
  p2 : wfk .i64 r.p2
  tick : wfk .u64 r.tick
  epoch : wfk .u32 r.epoch
  bound : wfk .i64 r.bound
  flags : wfk .u32 r.flags
  fails : wfk .u16 r.fails
  counter : wfk .u64 r.counter
theorem wf_u64 {n : Int} (h : wfk .u64 n) : n = (n.toNat : Int) ∧ n.toNat < 18446744073709551616 := by
  have := wfk_bounds h
  simp [IntKind.min, IntKind.max, IntKind.signed, IntKind.bits] at this
  omega
def keyL (k : Nat → B8) : List B8 := [k 0, k 1, k 2, k 3, k 4, k 5, k 6, k 7, k 8, k 9, k 10, k 11, k 12, k 13, k 14, k 15, k 16, k 17, k 18, k 19, k 20, k 21, k 22, k 23, k 24, k 25, k 26, k 27, k 28, k 29, k 30, k 31]
/-- A number as it is written. -/
def w64 (n : Int) : Nat := (IntKind.u64.wrap n).toNat
theorem w64_lt (n : Int) : w64 n < 18446744073709551616 := wrap_u64_lt n
theorem w64_eq (n : Int) : (w64 n : Int) = IntKind.u64.wrap n := wrap_u64_nat n
def bodyR (r : Rdg) : List B8 :=
  if r.kind = 1 then [r.g0, r.g1, r.g2].flatMap be4 ++ [r.a0, r.a1, r.a2].flatMap be4
  else if r.kind = 2 then be8' r.height
  else if r.kind = 3 then beN 4 (w64 r.heading)
  else if r.kind = 4 then be4 r.speed ++ beN 4 (w64 r.steps)
  else if r.kind = 5 then beN 4 (w64 r.interval) ++ [r.seq] ++ [r.p0, r.p1, r.p2].flatMap be8'
  else if r.kind = 6 then beN 4 (w64 r.interval) ++ keyL r.key
  else if r.kind = 7 then beN 8 r.tick.toNat
  else if r.kind = 8 then [r.mode]
  else if r.kind = 10 then beN 4 (w64 r.epoch)
  else if r.kind = 12 then [r.source]
  else if r.kind = 13 then [r.mode] ++ [r.p0, r.p1, r.p2].flatMap be8' ++ be8' r.bound ++ beN 4 (w64 r.flags)
  else if r.kind = 14 then [r.source] ++ [r.state] ++ beN 2 (w64 r.fails) ++ beN 8 r.counter.toNat ++ beN 4 (w64 r.epoch)
  else []
end Go.Proofs.YtbdnebedmdoehaaGreat

namespace Go.Proofs.YtbdnebedmdoehaaGreat
open Go.PK

theorem fitI {q : IntKind} {n : Int} (h : wfk q n) : EK.fit (.int q) (.int q n) := And.intro rfl h
theorem fit8 (b : B8) : EK.fit (.int .u8) (U8 b) := show EK.fit (.int .u8) (.int .u8 b.toNat) from And.intro rfl (by have := b.isLt; simp only [wfk, Lit.wf, IntKind.min, IntKind.max, IntKind.signed, IntKind.bits, Bool.and_eq_true, decide_eq_true_eq, Bool.false_eq_true, if_false]; omega)
def shapeR : List EK := [.int .i64, .int .i32, .int .i32, .int .i32, .int .i32, .int .i32, .int .i32, .int .i64, .int .u32, .int .i32, .int .u32, .int .u32, .int .u8, .int .i64, .int .i64, .int .i64, .int .u8, .int .u8, .int .u8, .int .u8, .int .u8, .int .u8, .int .u8, .int .u8, .int .u8, .int .u8, .int .u8, .int .u8, .int .u8, .int .u8, .int .u8, .int .u8, .int .u8, .int .u8, .int .u8, .int .u8, .int .u8, .int .u8, .int .u8, .int .u8, .int .u8, .int .u8, .int .u8, .int .u8, .int .u8, .int .u8, .int .u8, .int .u8, .int .u64, .int .u8, .int .u32, .int .i64, .int .u32, .int .u8, .int .u8, .int .u16, .int .u64]
set_option maxRecDepth 10000
theorem shape_rdg : PK.shape Tryz.prog 4 68 = some shapeR := by kernel_rfl
theorem keyT_rdg : Tryz.prog.keyTypeAt 4 68 = true := by kernel_rfl
theorem wide_rdg : (match Tryz.prog.underlying 68 with | some (.array _ _) | some (.struct _) => true | _ => false) = true := by kernel_rfl
theorem cells_rdg : Tryz.prog.cellsOf 68 = shapeR.length := by kernel_rfl
theorem guard_rdg : Tryz.prog.eqGuardType Tryz.prog.depth 68 = false := by kernel_rfl
theorem Rdg.Ok.fits {r : Rdg} (h : r.Ok) : Fits shapeR r.cells := (Fits.cons (fitI h.kind) (Fits.cons (fitI h.g0) (Fits.cons (fitI h.g1) (Fits.cons (fitI h.g2) (Fits.cons (fitI h.a0) (Fits.cons (fitI h.a1) (Fits.cons (fitI h.a2) (Fits.cons (fitI h.height) (Fits.cons (fitI h.heading) (Fits.cons (fitI h.speed) (Fits.cons (fitI h.steps) (Fits.cons (fitI h.interval) (Fits.cons (fit8 _) (Fits.cons (fitI h.p0) (Fits.cons (fitI h.p1) (Fits.cons (fitI h.p2) (Fits.cons (fit8 _) (Fits.cons (fit8 _) (Fits.cons (fit8 _) (Fits.cons (fit8 _) (Fits.cons (fit8 _) (Fits.cons (fit8 _) (Fits.cons (fit8 _) (Fits.cons (fit8 _) (Fits.cons (fit8 _) (Fits.cons (fit8 _) (Fits.cons (fit8 _) (Fits.cons (fit8 _) (Fits.cons (fit8 _) (Fits.cons (fit8 _) (Fits.cons (fit8 _) (Fits.cons (fit8 _) (Fits.cons (fit8 _) (Fits.cons (fit8 _) (Fits.cons (fit8 _) (Fits.cons (fit8 _) (Fits.cons (fit8 _) (Fits.cons (fit8 _) (Fits.cons (fit8 _) (Fits.cons (fit8 _) (Fits.cons (fit8 _) (Fits.cons (fit8 _) (Fits.cons (fit8 _) (Fits.cons (fit8 _) (Fits.cons (fit8 _) (Fits.cons (fit8 _) (Fits.cons (fit8 _) (Fits.cons (fit8 _) (Fits.cons (fitI h.tick) (Fits.cons (fit8 _) (Fits.cons (fitI h.epoch) (Fits.cons (fitI h.bound) (Fits.cons (fitI h.flags) (Fits.cons (fit8 _) (Fits.cons (fit8 _) (Fits.cons (fitI h.fails) (Fits.cons (fitI h.counter) trivial)))))))))))))))))))))))))))))))))))))))))))))))))))))))))
theorem neq_rdg {a b : Rdg} (ha : a.Ok) (hb : b.Ok) {r : Bool} (hr : r = true ↔ a.cells = b.cells) (x y : Operand) (w : World) : (do eqGuard .neq 68 x y (.agg a.cells.toArray) (.agg b.cells.toArray); binOp .neq 68 (.agg a.cells.toArray) (.agg b.cells.toArray) : Sem Value).run Tryz.prog w = .ok (.bool (!r)) w :=
  neq_flat (by decide) keyT_rdg shape_rdg wide_rdg cells_rdg guard_rdg ha.fits hb.fits hr w
theorem wf_i32at (l : List B8) (o : Nat) : wfk .i32 (i32at l o) := by
  simp only [wfk, Lit.wf, i32at, IntKind.wrap, IntKind.min, IntKind.max, IntKind.signed, IntKind.bits, Bool.and_eq_true, decide_eq_true_eq]
  simp
  omega
theorem wf_i64at (l : List B8) (o : Nat) : wfk .i64 (i64at l o) := by
  simp only [wfk, Lit.wf, i64at, IntKind.wrap, IntKind.min, IntKind.max, IntKind.signed, IntKind.bits, Bool.and_eq_true, decide_eq_true_eq]
  simp
  omega
theorem wf_n4 (l : List B8) (o : Nat) : wfk .u32 (nat l o 4 : Int) := by
  have h := nat_lt l o 4
  simp only [wfk, Lit.wf, IntKind.min, IntKind.max, IntKind.signed, IntKind.bits, Bool.and_eq_true, decide_eq_true_eq, Bool.false_eq_true, if_false]
  omega
theorem wf_n2 (l : List B8) (o : Nat) : wfk .u16 (nat l o 2 : Int) := by
  have h := nat_lt l o 2
  simp only [wfk, Lit.wf, IntKind.min, IntKind.max, IntKind.signed, IntKind.bits, Bool.and_eq_true, decide_eq_true_eq, Bool.false_eq_true, if_false]
  omega
theorem wf_n8 (l : List B8) (o : Nat) : wfk .u64 (nat l o 8 : Int) := by
  have h := nat_lt l o 8
  simp only [wfk, Lit.wf, IntKind.min, IntKind.max, IntKind.signed, IntKind.bits, Bool.and_eq_true, decide_eq_true_eq, Bool.false_eq_true, if_false]
  omega
theorem rz_ok {k : Int} (h : wfk .i64 k) : (rz k).Ok := ⟨h, rfl, rfl, rfl, rfl, rfl, rfl, rfl, rfl, rfl, rfl, rfl, rfl, rfl, rfl, rfl, rfl, rfl, rfl, rfl, rfl⟩
theorem getR_ok {k : Int} (hk : wfk .i64 k) (l : List B8) : (getR k l).Ok := by
  unfold getR
  by_cases h1 : k = 1
  · rw [if_pos h1]; exact ⟨rfl, wf_i32at _ _, wf_i32at _ _, wf_i32at _ _, wf_i32at _ _, wf_i32at _ _, wf_i32at _ _, rfl, rfl, rfl, rfl, rfl, rfl, rfl, rfl, rfl, rfl, rfl, rfl, rfl, rfl⟩
  rw [if_neg h1]
  by_cases h2 : k = 2
  · rw [if_pos h2]; exact ⟨rfl, rfl, rfl, rfl, rfl, rfl, rfl, wf_i64at _ _, rfl, rfl, rfl, rfl, rfl, rfl, rfl, rfl, rfl, rfl, rfl, rfl, rfl⟩
  rw [if_neg h2]
  by_cases h3 : k = 3
  · rw [if_pos h3]; exact ⟨rfl, rfl, rfl, rfl, rfl, rfl, rfl, rfl, wf_n4 _ _, rfl, rfl, rfl, rfl, rfl, rfl, rfl, rfl, rfl, rfl, rfl, rfl⟩
  rw [if_neg h3]
  by_cases h4 : k = 4
  · rw [if_pos h4]; exact ⟨rfl, rfl, rfl, rfl, rfl, rfl, rfl, rfl, rfl, wf_i32at _ _, wf_n4 _ _, rfl, rfl, rfl, rfl, rfl, rfl, rfl, rfl, rfl, rfl⟩
  rw [if_neg h4]
  by_cases h5 : k = 5
  · rw [if_pos h5]; exact ⟨rfl, rfl, rfl, rfl, rfl, rfl, rfl, rfl, rfl, rfl, rfl, wf_n4 _ _, wf_i64at _ _, wf_i64at _ _, wf_i64at _ _, rfl, rfl, rfl, rfl, rfl, rfl⟩
  rw [if_neg h5]
  by_cases h6 : k = 6
  · rw [if_pos h6]; exact ⟨rfl, rfl, rfl, rfl, rfl, rfl, rfl, rfl, rfl, rfl, rfl, wf_n4 _ _, rfl, rfl, rfl, rfl, rfl, rfl, rfl, rfl, rfl⟩
  rw [if_neg h6]
  by_cases h7 : k = 7
  · rw [if_pos h7]; exact ⟨rfl, rfl, rfl, rfl, rfl, rfl, rfl, rfl, rfl, rfl, rfl, rfl, rfl, rfl, rfl, wf_n8 _ _, rfl, rfl, rfl, rfl, rfl⟩
  rw [if_neg h7]
  by_cases h8 : k = 8
  · rw [if_pos h8]; exact ⟨rfl, rfl, rfl, rfl, rfl, rfl, rfl, rfl, rfl, rfl, rfl, rfl, rfl, rfl, rfl, rfl, rfl, rfl, rfl, rfl, rfl⟩
  rw [if_neg h8]
  by_cases h10 : k = 10
  · rw [if_pos h10]; exact ⟨rfl, rfl, rfl, rfl, rfl, rfl, rfl, rfl, rfl, rfl, rfl, rfl, rfl, rfl, rfl, rfl, wf_n4 _ _, rfl, rfl, rfl, rfl⟩
  rw [if_neg h10]
  by_cases h12 : k = 12
  · rw [if_pos h12]; exact ⟨rfl, rfl, rfl, rfl, rfl, rfl, rfl, rfl, rfl, rfl, rfl, rfl, rfl, rfl, rfl, rfl, rfl, rfl, rfl, rfl, rfl⟩
  rw [if_neg h12]
  by_cases h13 : k = 13
  · rw [if_pos h13]; exact ⟨rfl, rfl, rfl, rfl, rfl, rfl, rfl, rfl, rfl, rfl, rfl, rfl, wf_i64at _ _, wf_i64at _ _, wf_i64at _ _, rfl, rfl, wf_i64at _ _, wf_n4 _ _, rfl, rfl⟩
  rw [if_neg h13]
  by_cases h14 : k = 14
  · rw [if_pos h14]; exact ⟨rfl, rfl, rfl, rfl, rfl, rfl, rfl, rfl, rfl, rfl, rfl, rfl, rfl, rfl, rfl, rfl, wf_n4 _ _, rfl, rfl, wf_n2 _ _, wf_n8 _ _⟩
  rw [if_neg h14]
  exact rz_ok hk
/-- What is put comes back. -/
def okP (r : Rdg) : Prop := ∃ x, gotR r.kind (bodyR r) = some x ∧ x.cells = r.cells
open Classical in
noncomputable def putB (r : Rdg) : List B8 := if okP r then bodyR r else []
open Classical in
noncomputable def putE (r : Rdg) : Int := if okP r then 0 else 120
def PutR (r : Rdg) : Value → List It → List It → Prop := fun v I' H' => ∃ ob cap, v = .tuple #[slO ob (putB r).length cap, .int .i64 (putE r)] ∧ I' = [] ∧ H' = [own ob cap 5 1 (putB r).length (bytes (putB r))]
theorem put_yes {r : Rdg} (h : okP r) : putB r = bodyR r ∧ putE r = 0 := ⟨if_pos h, if_pos h⟩
theorem put_no {r : Rdg} (h : ¬ okP r) : putB r = [] ∧ putE r = 120 := ⟨if_neg h, if_neg h⟩
end Go.Proofs.YtbdnebedmdoehaaGreat

namespace Go.Proofs.YtbdnebedmdoehaaGreat
open Go.PK

theorem bodyR_len (r : Rdg) : (bodyR r).length ≤ 100 := by
  unfold bodyR
  by_cases h1 : r.kind = 1
  · rw [if_pos h1]; simp [beN_length, be4_length, be8'_length, keyL]
  rw [if_neg h1]
  by_cases h2 : r.kind = 2
  · rw [if_pos h2]; simp [beN_length, be4_length, be8'_length, keyL]
  rw [if_neg h2]
  by_cases h3 : r.kind = 3
  · rw [if_pos h3]; simp [beN_length, be4_length, be8'_length, keyL]
  rw [if_neg h3]
  by_cases h4 : r.kind = 4
  · rw [if_pos h4]; simp [beN_length, be4_length, be8'_length, keyL]
  rw [if_neg h4]
  by_cases h5 : r.kind = 5
  · rw [if_pos h5]; simp [beN_length, be4_length, be8'_length, keyL]
  rw [if_neg h5]
  by_cases h6 : r.kind = 6
  · rw [if_pos h6]; simp [beN_length, be4_length, be8'_length, keyL]
  rw [if_neg h6]
  by_cases h7 : r.kind = 7
  · rw [if_pos h7]; simp [beN_length, be4_length, be8'_length, keyL]
  rw [if_neg h7]
  by_cases h8 : r.kind = 8
  · rw [if_pos h8]; simp [beN_length, be4_length, be8'_length, keyL]
  rw [if_neg h8]
  by_cases h10 : r.kind = 10
  · rw [if_pos h10]; simp [beN_length, be4_length, be8'_length, keyL]
  rw [if_neg h10]
  by_cases h12 : r.kind = 12
  · rw [if_pos h12]; simp [beN_length, be4_length, be8'_length, keyL]
  rw [if_neg h12]
  by_cases h13 : r.kind = 13
  · rw [if_pos h13]; simp [beN_length, be4_length, be8'_length, keyL]
  rw [if_neg h13]
  by_cases h14 : r.kind = 14
  · rw [if_pos h14]; simp [beN_length, be4_length, be8'_length, keyL]
  rw [if_neg h14]
  simp
theorem not_okP {r : Rdg} (h : ¬ (1 ≤ r.kind ∧ r.kind ≤ 14)) : ¬ okP r := by
  rintro ⟨x, hx, -⟩
  rw [gotR, if_neg (by omega)] at hx
  cases hx
theorem got_ok {k : Int} (hk : wfk .i64 k) {l : List B8} {x : Rdg} (h : gotR k l = some x) : x.Ok := by
  unfold gotR at h
  split at h
  · cases h; exact getR_ok hk l
  · cases h

end Go.Proofs.YtbdnebedmdoehaaGreat

namespace Go.Proofs.YtbdnebedmdoehaaGreat
open Go.PK

theorem rsputfix8 (a : Int) : Spc Tryz.prog 107 #[.int .i64 a] [] [] (OwnN 8 (be8' a)) := OwnB.n (be8'_length a) (rsputfix_any a)
attribute [local irreducible] be8' be4 beN
set_option maxHeartbeats 20000000 in
theorem place_any (p0 p1 p2 : Int) : Spc Tryz.prog 109 #[.agg #[.int .i64 p0, .int .i64 p1, .int .i64 p2]] [] [] (OwnB ([p0, p1, p2].flatMap be8')) := by
  have h0 := be8'_length p0
  have h1 := be8'_length p1
  have h2 := be8'_length p2
  refine Spc.enter Tryz.func109 rfl rfl rfl (fun w0 hw0 => ?_)
  refine CW.seq ?_
  refine CW.region (ef := [0]) (bk := []) ?_
  refine RL.box rfl rfl rfl rfl rfl rfl ?_
  intro b1
  refine RL.assign rfl rfl rfl rfl ?_
  refine RL.nil ?_
  refine NQ.seq ?_
  refine CW.seq ?_
  refine CW.freezeAll rfl ?_
  simp only [List.cons_append, List.nil_append]
  refine CW.regionD (.cons 1 (.cons 2 (.cons 5 (.cons 6 (.cons 9 (.cons 10 (.fork [0, 3] (fun k => (bif Nat.beq k 0 then (Sq.of [3, 4, 7, 8, 11, 12, 13]) else (Sq.of [0, 4, 7, 8, 11, 12, 13])))))))))) [0, 3, 4, 7, 8, 11, 12] [4, 8, 12] [1, 2, 5, 6, 9, 10, 13] mixed (by kernel_rfl) ?_
  refine RL.idxAAt (j := 0) Tryz.runUnderlying65 Tryz.sizeOf45 rfl rfl rfl rfl rfl rfl (by decide) ?_
  refine RL.loadTq Tryz.isAgg45 rfl rfl rfl rfl ?_
  refine RL.idxAAt (j := 1) Tryz.runUnderlying65 Tryz.sizeOf45 rfl rfl rfl rfl rfl rfl (by decide) ?_
  refine RL.loadTq Tryz.isAgg45 rfl rfl rfl rfl ?_
  refine RL.idxAAt (j := 2) Tryz.runUnderlying65 Tryz.sizeOf45 rfl rfl rfl rfl rfl rfl (by decide) ?_
  refine RL.loadTq Tryz.isAgg45 rfl rfl rfl rfl ?_
  refine RL.fork ⟨?_, ?_, trivial⟩
  ·
    refine RL.buildOwn [] Tryz.runUnderlying26 Tryz.sizeOf5 Tryz.zeroValue5 rfl rfl (by decide) (by decide) rfl (by decide) rfl rfl rfl rfl rfl rfl ?_
    intro b2
    refine RL.callq (rsputfix8 p0) Tryz.call107 rfl rfl rfl rfl rfl (.inl rfl) ?_
    rintro _ _ _ ⟨ob1, cap1, rfl, rfl, rfl, ho1⟩
    refine RL.appendq el_26 rfl rfl rfl rfl rfl rfl rfl ?_ (hs := (by first | (exact Src.cel (by (solve | (repeat (first | exact List.Mem.head _ | apply List.Mem.tail)))) (by first | rfl | assumption | (simp only [List.length_map]; assumption) | (simp only [List.length_map, List.length_replicate]; done) | (simp; done))) | (exact Src.ownS (by (solve | (repeat (first | exact List.Mem.head _ | apply List.Mem.tail))))) | (exact Src.own (by (solve | (repeat (first | exact List.Mem.head _ | apply List.Mem.tail))))) | (exact Src.sls (by (solve | (repeat (first | exact List.Mem.head _ | apply List.Mem.tail))))) | (exact Src.celI (by (solve | (repeat (first | exact List.Mem.head _ | apply List.Mem.tail)))) (by first | rfl | assumption | (simp only [List.length_map]; assumption) | (simp only [List.length_map, List.length_replicate]; done) | (simp; done)))))
    intro ob2 cap2 ho2
    refine RL.callq (rsputfix8 p1) Tryz.call107 rfl rfl rfl rfl rfl (.inl rfl) ?_
    rintro _ _ _ ⟨ob3, cap3, rfl, rfl, rfl, ho3⟩
    refine RL.appendq el_26 rfl rfl rfl rfl rfl rfl rfl ?_ (hs := (by first | (exact Src.cel (by (solve | (repeat (first | exact List.Mem.head _ | apply List.Mem.tail)))) (by first | rfl | assumption | (simp only [List.length_map]; assumption) | (simp only [List.length_map, List.length_replicate]; done) | (simp; done))) | (exact Src.ownS (by (solve | (repeat (first | exact List.Mem.head _ | apply List.Mem.tail))))) | (exact Src.own (by (solve | (repeat (first | exact List.Mem.head _ | apply List.Mem.tail))))) | (exact Src.sls (by (solve | (repeat (first | exact List.Mem.head _ | apply List.Mem.tail))))) | (exact Src.celI (by (solve | (repeat (first | exact List.Mem.head _ | apply List.Mem.tail)))) (by first | rfl | assumption | (simp only [List.length_map]; assumption) | (simp only [List.length_map, List.length_replicate]; done) | (simp; done)))))
    intro ob4 cap4 ho4
    refine RL.callq (rsputfix8 p2) Tryz.call107 rfl rfl rfl rfl rfl (.inl rfl) ?_
    rintro _ _ _ ⟨ob5, cap5, rfl, rfl, rfl, ho5⟩
    refine RL.appendq el_26 rfl rfl rfl rfl rfl rfl rfl ?_ (hs := (by first | (exact Src.cel (by (solve | (repeat (first | exact List.Mem.head _ | apply List.Mem.tail)))) (by first | rfl | assumption | (simp only [List.length_map]; assumption) | (simp only [List.length_map, List.length_replicate]; done) | (simp; done))) | (exact Src.ownS (by (solve | (repeat (first | exact List.Mem.head _ | apply List.Mem.tail))))) | (exact Src.own (by (solve | (repeat (first | exact List.Mem.head _ | apply List.Mem.tail))))) | (exact Src.sls (by (solve | (repeat (first | exact List.Mem.head _ | apply List.Mem.tail))))) | (exact Src.celI (by (solve | (repeat (first | exact List.Mem.head _ | apply List.Mem.tail)))) (by first | rfl | assumption | (simp only [List.length_map]; assumption) | (simp only [List.length_map, List.length_replicate]; done) | (simp; done)))))
    intro ob6 cap6 ho6
    refine RL.assign rfl rfl rfl rfl ?_
    refine RL.nil ?_
    refine NQ.seq ?_
    refine CW.only (.cons (k := 2) rfl .nil) ?_
    refine CW.ret ?_
    exact RQ.ownB rfl rfl (by first | exact .keep (Split.none _) | exact .drop (.keep (Split.none _))) (by simp [be8'_length]) (by simp) (by assumption)
  ·
    refine RL.callq (rsputfix8 p0) Tryz.call107 rfl rfl rfl rfl rfl (.inl rfl) ?_
    rintro _ _ _ ⟨ob1, cap1, rfl, rfl, rfl, ho1⟩
    refine RL.buildOwn [] Tryz.runUnderlying26 Tryz.sizeOf5 Tryz.zeroValue5 rfl rfl (by decide) (by decide) rfl (by decide) rfl rfl rfl rfl rfl rfl ?_
    intro b2
    refine RL.appendq el_26 rfl rfl rfl rfl rfl rfl rfl ?_ (hs := (by first | (exact Src.cel (by (solve | (repeat (first | exact List.Mem.head _ | apply List.Mem.tail)))) (by first | rfl | assumption | (simp only [List.length_map]; assumption) | (simp only [List.length_map, List.length_replicate]; done) | (simp; done))) | (exact Src.ownS (by (solve | (repeat (first | exact List.Mem.head _ | apply List.Mem.tail))))) | (exact Src.own (by (solve | (repeat (first | exact List.Mem.head _ | apply List.Mem.tail))))) | (exact Src.sls (by (solve | (repeat (first | exact List.Mem.head _ | apply List.Mem.tail))))) | (exact Src.celI (by (solve | (repeat (first | exact List.Mem.head _ | apply List.Mem.tail)))) (by first | rfl | assumption | (simp only [List.length_map]; assumption) | (simp only [List.length_map, List.length_replicate]; done) | (simp; done)))))
    intro ob2 cap2 ho2
    refine RL.callq (rsputfix8 p1) Tryz.call107 rfl rfl rfl rfl rfl (.inl rfl) ?_
    rintro _ _ _ ⟨ob3, cap3, rfl, rfl, rfl, ho3⟩
    refine RL.appendq el_26 rfl rfl rfl rfl rfl rfl rfl ?_ (hs := (by first | (exact Src.cel (by (solve | (repeat (first | exact List.Mem.head _ | apply List.Mem.tail)))) (by first | rfl | assumption | (simp only [List.length_map]; assumption) | (simp only [List.length_map, List.length_replicate]; done) | (simp; done))) | (exact Src.ownS (by (solve | (repeat (first | exact List.Mem.head _ | apply List.Mem.tail))))) | (exact Src.own (by (solve | (repeat (first | exact List.Mem.head _ | apply List.Mem.tail))))) | (exact Src.sls (by (solve | (repeat (first | exact List.Mem.head _ | apply List.Mem.tail))))) | (exact Src.celI (by (solve | (repeat (first | exact List.Mem.head _ | apply List.Mem.tail)))) (by first | rfl | assumption | (simp only [List.length_map]; assumption) | (simp only [List.length_map, List.length_replicate]; done) | (simp; done)))))
    intro ob4 cap4 ho4
    refine RL.callq (rsputfix8 p2) Tryz.call107 rfl rfl rfl rfl rfl (.inl rfl) ?_
    rintro _ _ _ ⟨ob5, cap5, rfl, rfl, rfl, ho5⟩
    refine RL.appendq el_26 rfl rfl rfl rfl rfl rfl rfl ?_ (hs := (by first | (exact Src.cel (by (solve | (repeat (first | exact List.Mem.head _ | apply List.Mem.tail)))) (by first | rfl | assumption | (simp only [List.length_map]; assumption) | (simp only [List.length_map, List.length_replicate]; done) | (simp; done))) | (exact Src.ownS (by (solve | (repeat (first | exact List.Mem.head _ | apply List.Mem.tail))))) | (exact Src.own (by (solve | (repeat (first | exact List.Mem.head _ | apply List.Mem.tail))))) | (exact Src.sls (by (solve | (repeat (first | exact List.Mem.head _ | apply List.Mem.tail))))) | (exact Src.celI (by (solve | (repeat (first | exact List.Mem.head _ | apply List.Mem.tail)))) (by first | rfl | assumption | (simp only [List.length_map]; assumption) | (simp only [List.length_map, List.length_replicate]; done) | (simp; done)))))
    intro ob6 cap6 ho6
    refine RL.assign rfl rfl rfl rfl ?_
    refine RL.nil ?_
    refine NQ.seq ?_
    refine CW.only (.cons (k := 2) rfl .nil) ?_
    refine CW.ret ?_
    exact RQ.ownB rfl rfl (by first | exact .keep (Split.none _) | exact .drop (.keep (Split.none _))) (by simp [be8'_length]) (by simp) (by assumption)
end Go.Proofs.YtbdnebedmdoehaaGreat

namespace Go.Proofs.YtbdnebedmdoehaaGreat
open Go.PK

theorem rput4 (a : Int) : Spc Tryz.prog 106 #[.int .i32 a] [] [] (OwnN 4 (be4 a)) := OwnB.n (be4_length a) (rsput_any a)
theorem rnum (a : Int) (n : Nat) (hn : n ≤ 8) : Spc Tryz.prog 108 #[.int .u64 (IntKind.u64.wrap a), .int .i64 (n : Int)] [] [] (OwnN n (beN n (w64 a))) := by
  rw [← w64_eq]
  exact OwnB.n (beN_length _ _) (num12 (w64 a) n (w64_lt a) hn)
theorem rnumT (a : Int) (ha : wfk .u64 a) (n : Nat) (hn : n ≤ 8) : Spc Tryz.prog 108 #[.int .u64 a, .int .i64 (n : Int)] [] [] (OwnN n (beN n a.toNat)) := by
  have h := wf_u64 ha
  rw [congrArg (Value.int .u64) h.1]
  exact OwnB.n (beN_length _ _) (num12 a.toNat n h.2 hn)
theorem rplace (a b c : Int) : Spc Tryz.prog 109 #[.agg #[.int .i64 a, .int .i64 b, .int .i64 c]] [] [] (OwnN 24 ([a, b, c].flatMap be8')) := OwnB.n (by simp [be8'_length]) (place_any a b c)
theorem key_in (r : Rdg) : ∀ (j : Nat) (u : Value), (bytes (keyL r.key))[j]? = some u → r.cells[0 + 16 + j]? = some u := by
  intro j u h
  have hl : j < 32 := (List.getElem?_eq_some_iff.1 h).1
  unfold Rdg.cells
  rw [List.getElem?_append_right (by simp), show 0 + 16 + j - List.length _ = j from by simp, List.getElem?_append_left (by exact hl)]
  exact h
attribute [local irreducible] be8' be4 beN
set_option maxHeartbeats 4000000 in
theorem rbody_2 (r : Rdg) (hk : r.kind = 2) (hr : r.Ok) : Spc Tryz.prog 87 #[.agg r.cells.toArray] [] [] (OwnB (bodyR r)) := by
  refine Spc.enter Tryz.func87 rfl rfl rfl (fun w0 hw0 => ?_)
  refine CW.seq ?_
  refine CW.region (ef := [0]) (bk := []) ?_
  refine RL.box rfl rfl rfl rfl rfl rfl ?_
  intro b1
  refine RL.assign rfl rfl rfl rfl ?_
  refine RL.nil ?_
  refine NQ.seq ?_
  refine CW.seq ?_
  refine CW.freezeAll rfl ?_
  simp only [List.cons_append, List.nil_append]
  refine CW.region (ef := [0]) (bk := []) ?_
  refine RL.buildOwn [] Tryz.runUnderlying26 Tryz.sizeOf5 Tryz.zeroValue5 rfl rfl (by decide) (by decide) rfl (by decide) rfl rfl rfl rfl rfl rfl ?_
  intro b2
  refine RL.assign rfl rfl rfl rfl ?_
  refine RL.nil ?_
  refine NQ.seq ?_
  refine CW.seq ?_
  refine CW.region (ef := []) (bk := []) ?_
  refine RL.fieldAddr fa_68_0 rfl rfl rfl rfl ?_
  refine RL.loadq Tryz.isAgg3 rfl rfl rfl rfl ?_
  refine RL.nil ?_
  refine NQ.seq ?_
  refine CW.block ?_
  refine CW.seq ?_
  refine CW.region (ef := []) (bk := []) ?_
  refine RL.bin rfl rfl rfl rfl rfl rfl ?_
  refine RL.assign rfl rfl rfl rfl ?_
  refine RL.nil ?_
  refine NQ.seq ?_
  refine CW.condF rfl ((by rw [hk]; rfl)) ?_
  refine CW.seq ?_
  refine CW.region (ef := []) (bk := []) ?_
  refine RL.bin rfl rfl rfl rfl rfl rfl ?_
  refine RL.assign rfl rfl rfl rfl ?_
  refine RL.nil ?_
  refine NQ.seq ?_
  refine CW.only (.cons (k := 1) rfl (.cons (k := 3) rfl (.cons (k := 8) rfl (.cons (k := 35) rfl .nil)))) ?_
  refine CW.condT rfl ((by rw [hk]; rfl)) ?_
  refine CW.seq ?_
  refine CW.region (ef := [2]) (bk := []) ?_
  refine RL.fieldAddr fa_68_3 rfl rfl rfl rfl ?_
  refine RL.loadq Tryz.isAgg45 rfl rfl rfl rfl ?_
  refine RL.callq (rsputfix8 r.height) Tryz.call107 rfl rfl rfl rfl rfl (.inl rfl) ?_
  rintro _ _ _ ⟨ob1, cap1, rfl, rfl, rfl, ho1⟩
  refine RL.assign rfl rfl rfl rfl ?_
  refine RL.nil ?_
  refine NQ.seq ?_
  refine CW.only (.cons (k := 2) rfl .nil) ?_
  refine CW.ret ?_
  refine RQ.block ?_
  exact RQ.ownB (l := bodyR r) rfl rfl (by first | exact .keep (Split.none _) | exact .drop (.keep (Split.none _)) | exact .drop (.drop (.keep (Split.none _)))) (by unfold bodyR; simp [hk, beN_length, be4_length, be8'_length, keyL]) (by unfold bodyR; simp [hk, keyL]) (by first | assumption | (right; rfl))
set_option maxHeartbeats 4000000 in
theorem rbody_3 (r : Rdg) (hk : r.kind = 3) (hr : r.Ok) : Spc Tryz.prog 87 #[.agg r.cells.toArray] [] [] (OwnB (bodyR r)) := by
  refine Spc.enter Tryz.func87 rfl rfl rfl (fun w0 hw0 => ?_)
  refine CW.seq ?_
  refine CW.region (ef := [0]) (bk := []) ?_
  refine RL.box rfl rfl rfl rfl rfl rfl ?_
  intro b1
  refine RL.assign rfl rfl rfl rfl ?_
  refine RL.nil ?_
  refine NQ.seq ?_
  refine CW.seq ?_
  refine CW.freezeAll rfl ?_
  simp only [List.cons_append, List.nil_append]
  refine CW.region (ef := [0]) (bk := []) ?_
  refine RL.buildOwn [] Tryz.runUnderlying26 Tryz.sizeOf5 Tryz.zeroValue5 rfl rfl (by decide) (by decide) rfl (by decide) rfl rfl rfl rfl rfl rfl ?_
  intro b2
  refine RL.assign rfl rfl rfl rfl ?_
  refine RL.nil ?_
  refine NQ.seq ?_
  refine CW.seq ?_
  refine CW.region (ef := []) (bk := []) ?_
  refine RL.fieldAddr fa_68_0 rfl rfl rfl rfl ?_
  refine RL.loadq Tryz.isAgg3 rfl rfl rfl rfl ?_
  refine RL.nil ?_
  refine NQ.seq ?_
  refine CW.block ?_
  refine CW.seq ?_
  refine CW.region (ef := []) (bk := []) ?_
  refine RL.bin rfl rfl rfl rfl rfl rfl ?_
  refine RL.assign rfl rfl rfl rfl ?_
  refine RL.nil ?_
  refine NQ.seq ?_
  refine CW.condF rfl ((by rw [hk]; rfl)) ?_
  refine CW.seq ?_
  refine CW.region (ef := []) (bk := []) ?_
  refine RL.bin rfl rfl rfl rfl rfl rfl ?_
  refine RL.assign rfl rfl rfl rfl ?_
  refine RL.nil ?_
  refine NQ.seq ?_
  refine CW.only (.cons (k := 1) rfl (.cons (k := 3) rfl (.cons (k := 8) rfl (.cons (k := 35) rfl .nil)))) ?_
  refine CW.condF rfl ((by rw [hk]; rfl)) ?_
  refine CW.seq ?_
  refine CW.region (ef := []) (bk := []) ?_
  refine RL.bin rfl rfl rfl rfl rfl rfl ?_
  refine RL.assign rfl rfl rfl rfl ?_
  refine RL.nil ?_
  refine NQ.seq ?_
  refine CW.condT rfl ((by rw [hk]; rfl)) ?_
  refine CW.seq ?_
  refine CW.region (ef := [3]) (bk := []) ?_
  refine RL.fieldAddr fa_68_4 rfl rfl rfl rfl ?_
  refine RL.loadq Tryz.isAgg24 rfl rfl rfl rfl ?_
  refine RL.conv Tryz.runUnderlying24 Tryz.runUnderlying25 rfl rfl rfl rfl ?_
  refine RL.callq (rnum r.heading 4 (by decide)) Tryz.call108 rfl rfl rfl rfl rfl (.inl rfl) ?_
  rintro _ _ _ ⟨ob1, cap1, rfl, rfl, rfl, ho1⟩
  refine RL.assign rfl rfl rfl rfl ?_
  refine RL.nil ?_
  refine NQ.seq ?_
  refine CW.only (.cons (k := 2) rfl .nil) ?_
  refine CW.ret ?_
  refine RQ.block ?_
  exact RQ.ownB (l := bodyR r) rfl rfl (by first | exact .keep (Split.none _) | exact .drop (.keep (Split.none _)) | exact .drop (.drop (.keep (Split.none _)))) (by unfold bodyR; simp [hk, beN_length, be4_length, be8'_length, keyL]) (by unfold bodyR; simp [hk, keyL]) (by first | assumption | (right; rfl))
set_option maxHeartbeats 4000000 in
theorem rbody_4 (r : Rdg) (hk : r.kind = 4) (hr : r.Ok) : Spc Tryz.prog 87 #[.agg r.cells.toArray] [] [] (OwnB (bodyR r)) := by
  refine Spc.enter Tryz.func87 rfl rfl rfl (fun w0 hw0 => ?_)
  refine CW.seq ?_
  refine CW.region (ef := [0]) (bk := []) ?_
  refine RL.box rfl rfl rfl rfl rfl rfl ?_
  intro b1
  refine RL.assign rfl rfl rfl rfl ?_
  refine RL.nil ?_
  refine NQ.seq ?_
  refine CW.seq ?_
  refine CW.freezeAll rfl ?_
  simp only [List.cons_append, List.nil_append]
  refine CW.region (ef := [0]) (bk := []) ?_
  refine RL.buildOwn [] Tryz.runUnderlying26 Tryz.sizeOf5 Tryz.zeroValue5 rfl rfl (by decide) (by decide) rfl (by decide) rfl rfl rfl rfl rfl rfl ?_
  intro b2
  refine RL.assign rfl rfl rfl rfl ?_
  refine RL.nil ?_
  refine NQ.seq ?_
  refine CW.seq ?_
  refine CW.region (ef := []) (bk := []) ?_
  refine RL.fieldAddr fa_68_0 rfl rfl rfl rfl ?_
  refine RL.loadq Tryz.isAgg3 rfl rfl rfl rfl ?_
  refine RL.nil ?_
  refine NQ.seq ?_
  refine CW.block ?_
  refine CW.seq ?_
  refine CW.region (ef := []) (bk := []) ?_
  refine RL.bin rfl rfl rfl rfl rfl rfl ?_
  refine RL.assign rfl rfl rfl rfl ?_
  refine RL.nil ?_
  refine NQ.seq ?_
  refine CW.condF rfl ((by rw [hk]; rfl)) ?_
  refine CW.seq ?_
  refine CW.region (ef := []) (bk := []) ?_
  refine RL.bin rfl rfl rfl rfl rfl rfl ?_
  refine RL.assign rfl rfl rfl rfl ?_
  refine RL.nil ?_
  refine NQ.seq ?_
  refine CW.only (.cons (k := 1) rfl (.cons (k := 3) rfl (.cons (k := 8) rfl (.cons (k := 35) rfl .nil)))) ?_
  refine CW.condF rfl ((by rw [hk]; rfl)) ?_
  refine CW.seq ?_
  refine CW.region (ef := []) (bk := []) ?_
  refine RL.bin rfl rfl rfl rfl rfl rfl ?_
  refine RL.assign rfl rfl rfl rfl ?_
  refine RL.nil ?_
  refine NQ.seq ?_
  refine CW.condF rfl ((by rw [hk]; rfl)) ?_
  refine CW.seq ?_
  refine CW.region (ef := []) (bk := []) ?_
  refine RL.bin rfl rfl rfl rfl rfl rfl ?_
  refine RL.assign rfl rfl rfl rfl ?_
  refine RL.nil ?_
  refine NQ.seq ?_
  refine CW.condT rfl ((by rw [hk]; rfl)) ?_
  refine CW.seq ?_
  refine CW.regionD (Sq.of [0, 1, 3, 4, 5, 2, 6, 7, 8]) [2, 6, 7] [7] [0, 1, 3, 4, 5, 8] mixed (by kernel_rfl) ?_
  refine RL.fieldAddr fa_68_5 rfl rfl rfl rfl ?_
  refine RL.loadTq Tryz.isAgg62 rfl rfl rfl rfl ?_
  refine RL.fieldAddr fa_68_6 rfl rfl rfl rfl ?_
  refine RL.loadTq Tryz.isAgg24 rfl rfl rfl rfl ?_
  refine RL.conv Tryz.runUnderlying24 Tryz.runUnderlying25 rfl rfl rfl rfl ?_
  refine RL.callq (rput4 r.speed) Tryz.call106 rfl rfl rfl rfl rfl (.inl rfl) ?_
  rintro _ _ _ ⟨ob1, cap1, rfl, rfl, rfl, ho1⟩
  refine RL.callq (rnum r.steps 4 (by decide)) Tryz.call108 rfl rfl rfl rfl rfl (.inl rfl) ?_
  rintro _ _ _ ⟨ob2, cap2, rfl, rfl, rfl, ho2⟩
  refine RL.appendq el_26 rfl rfl rfl rfl rfl rfl rfl ?_ (hs := (by first | (exact Src.cel (by (solve | (repeat (first | exact List.Mem.head _ | apply List.Mem.tail)))) (by first | rfl | assumption | (simp only [List.length_map]; assumption) | (simp only [List.length_map, List.length_replicate]; done) | (simp; done))) | (exact Src.ownS (by (solve | (repeat (first | exact List.Mem.head _ | apply List.Mem.tail))))) | (exact Src.own (by (solve | (repeat (first | exact List.Mem.head _ | apply List.Mem.tail))))) | (exact Src.sls (by (solve | (repeat (first | exact List.Mem.head _ | apply List.Mem.tail))))) | (exact Src.celI (by (solve | (repeat (first | exact List.Mem.head _ | apply List.Mem.tail)))) (by first | rfl | assumption | (simp only [List.length_map]; assumption) | (simp only [List.length_map, List.length_replicate]; done) | (simp; done)))))
  intro ob3 cap3 ho3
  refine RL.assign rfl rfl rfl rfl ?_
  refine RL.nil ?_
  refine NQ.seq ?_
  refine CW.only (.cons (k := 2) rfl .nil) ?_
  refine CW.ret ?_
  refine RQ.block ?_
  exact RQ.ownB (l := bodyR r) rfl rfl (by first | exact .keep (Split.none _) | exact .drop (.keep (Split.none _)) | exact .drop (.drop (.keep (Split.none _)))) (by unfold bodyR; simp [hk, beN_length, be4_length, be8'_length, keyL]) (by unfold bodyR; simp [hk, keyL]) (by first | assumption | (right; rfl))
set_option maxHeartbeats 4000000 in
theorem rbody_5 (r : Rdg) (hk : r.kind = 5) (hr : r.Ok) : Spc Tryz.prog 87 #[.agg r.cells.toArray] [] [] (OwnB (bodyR r)) := by
  refine Spc.enter Tryz.func87 rfl rfl rfl (fun w0 hw0 => ?_)
  refine CW.seq ?_
  refine CW.region (ef := [0]) (bk := []) ?_
  refine RL.box rfl rfl rfl rfl rfl rfl ?_
  intro b1
  refine RL.assign rfl rfl rfl rfl ?_
  refine RL.nil ?_
  refine NQ.seq ?_
  refine CW.seq ?_
  refine CW.freezeAll rfl ?_
  simp only [List.cons_append, List.nil_append]
  refine CW.region (ef := [0]) (bk := []) ?_
  refine RL.buildOwn [] Tryz.runUnderlying26 Tryz.sizeOf5 Tryz.zeroValue5 rfl rfl (by decide) (by decide) rfl (by decide) rfl rfl rfl rfl rfl rfl ?_
  intro b2
  refine RL.assign rfl rfl rfl rfl ?_
  refine RL.nil ?_
  refine NQ.seq ?_
  refine CW.seq ?_
  refine CW.region (ef := []) (bk := []) ?_
  refine RL.fieldAddr fa_68_0 rfl rfl rfl rfl ?_
  refine RL.loadq Tryz.isAgg3 rfl rfl rfl rfl ?_
  refine RL.nil ?_
  refine NQ.seq ?_
  refine CW.block ?_
  refine CW.seq ?_
  refine CW.region (ef := []) (bk := []) ?_
  refine RL.bin rfl rfl rfl rfl rfl rfl ?_
  refine RL.assign rfl rfl rfl rfl ?_
  refine RL.nil ?_
  refine NQ.seq ?_
  refine CW.condF rfl ((by rw [hk]; rfl)) ?_
  refine CW.seq ?_
  refine CW.region (ef := []) (bk := []) ?_
  refine RL.bin rfl rfl rfl rfl rfl rfl ?_
  refine RL.assign rfl rfl rfl rfl ?_
  refine RL.nil ?_
  refine NQ.seq ?_
  refine CW.only (.cons (k := 1) rfl (.cons (k := 3) rfl (.cons (k := 8) rfl (.cons (k := 35) rfl .nil)))) ?_
  refine CW.condF rfl ((by rw [hk]; rfl)) ?_
  refine CW.seq ?_
  refine CW.region (ef := []) (bk := []) ?_
  refine RL.bin rfl rfl rfl rfl rfl rfl ?_
  refine RL.assign rfl rfl rfl rfl ?_
  refine RL.nil ?_
  refine NQ.seq ?_
  refine CW.condF rfl ((by rw [hk]; rfl)) ?_
  refine CW.seq ?_
  refine CW.region (ef := []) (bk := []) ?_
  refine RL.bin rfl rfl rfl rfl rfl rfl ?_
  refine RL.assign rfl rfl rfl rfl ?_
  refine RL.nil ?_
  refine NQ.seq ?_
  refine CW.condF rfl ((by rw [hk]; rfl)) ?_
  refine CW.seq ?_
  refine CW.region (ef := []) (bk := []) ?_
  refine RL.bin rfl rfl rfl rfl rfl rfl ?_
  refine RL.assign rfl rfl rfl rfl ?_
  refine RL.nil ?_
  refine NQ.seq ?_
  refine CW.only (.cons (k := 1) rfl (.cons (k := 3) rfl (.cons (k := 8) rfl (.cons (k := 56) rfl .nil)))) ?_
  refine CW.condT rfl ((by rw [hk]; rfl)) ?_
  refine CW.seq ?_
  refine CW.regionD (.cons 0 (.cons 1 (.cons 2 (.cons 4 (.cons 5 (.cons 8 (.cons 9 (.fork [3, 6] (fun k => (bif Nat.beq k 3 then (Sq.of [6, 7, 10, 11, 12]) else (Sq.of [3, 7, 10, 11, 12]))))))))))) [3, 6, 7, 10, 11] [7, 11] [0, 1, 2, 4, 5, 8, 9, 12] mixed (by kernel_rfl) ?_
  refine RL.fieldAddr fa_68_7 rfl rfl rfl rfl ?_
  refine RL.loadTq Tryz.isAgg24 rfl rfl rfl rfl ?_
  refine RL.conv Tryz.runUnderlying24 Tryz.runUnderlying25 rfl rfl rfl rfl ?_
  refine RL.fieldAddr fa_68_8 rfl rfl rfl rfl ?_
  refine RL.loadTq Tryz.isAgg5 rfl rfl rfl rfl ?_
  refine RL.fieldAddr fa_68_9 rfl rfl rfl rfl ?_
  refine RL.loadNT (vs := [_, _, _]) Tryz.isAgg65 Tryz.sizeOf65 rfl rfl rfl rfl (by first | (apply Rds.cel; (solve | (repeat (first | exact List.Mem.head _ | apply List.Mem.tail))); exact at_spec ⟨rfl, rfl, rfl, trivial⟩) | (apply Rds.celI; (solve | (repeat (first | exact List.Mem.head _ | apply List.Mem.tail))); exact at_spec ⟨rfl, rfl, rfl, trivial⟩) | assumption | (apply RdsI.rds; assumption)) ?_
  refine RL.fork ⟨?_, ?_, trivial⟩
  ·
    refine RL.callq (rnum r.interval 4 (by decide)) Tryz.call108 rfl rfl rfl rfl rfl (.inl rfl) ?_
    rintro _ _ _ ⟨ob1, cap1, rfl, rfl, rfl, ho1⟩
    refine RL.buildOwn [_] Tryz.runUnderlying26 Tryz.sizeOf5 Tryz.zeroValue5 rfl rfl (by decide) (by decide) rfl (by decide) rfl rfl rfl rfl rfl rfl ?_
    intro b3
    refine RL.appendq el_26 rfl rfl rfl rfl rfl rfl rfl ?_ (hs := (by first | (exact Src.cel (by (solve | (repeat (first | exact List.Mem.head _ | apply List.Mem.tail)))) (by first | rfl | assumption | (simp only [List.length_map]; assumption) | (simp only [List.length_map, List.length_replicate]; done) | (simp; done))) | (exact Src.ownS (by (solve | (repeat (first | exact List.Mem.head _ | apply List.Mem.tail))))) | (exact Src.own (by (solve | (repeat (first | exact List.Mem.head _ | apply List.Mem.tail))))) | (exact Src.sls (by (solve | (repeat (first | exact List.Mem.head _ | apply List.Mem.tail))))) | (exact Src.celI (by (solve | (repeat (first | exact List.Mem.head _ | apply List.Mem.tail)))) (by first | rfl | assumption | (simp only [List.length_map]; assumption) | (simp only [List.length_map, List.length_replicate]; done) | (simp; done)))))
    intro ob2 cap2 ho2
    refine RL.callq (rplace r.p0 r.p1 r.p2) Tryz.call109 rfl rfl rfl rfl rfl (.inl rfl) ?_
    rintro _ _ _ ⟨ob3, cap3, rfl, rfl, rfl, ho3⟩
    refine RL.appendq el_26 rfl rfl rfl rfl rfl rfl rfl ?_ (hs := (by first | (exact Src.cel (by (solve | (repeat (first | exact List.Mem.head _ | apply List.Mem.tail)))) (by first | rfl | assumption | (simp only [List.length_map]; assumption) | (simp only [List.length_map, List.length_replicate]; done) | (simp; done))) | (exact Src.ownS (by (solve | (repeat (first | exact List.Mem.head _ | apply List.Mem.tail))))) | (exact Src.own (by (solve | (repeat (first | exact List.Mem.head _ | apply List.Mem.tail))))) | (exact Src.sls (by (solve | (repeat (first | exact List.Mem.head _ | apply List.Mem.tail))))) | (exact Src.celI (by (solve | (repeat (first | exact List.Mem.head _ | apply List.Mem.tail)))) (by first | rfl | assumption | (simp only [List.length_map]; assumption) | (simp only [List.length_map, List.length_replicate]; done) | (simp; done)))))
    intro ob4 cap4 ho4
    refine RL.assign rfl rfl rfl rfl ?_
    refine RL.nil ?_
    refine NQ.seq ?_
    refine CW.only (.cons (k := 2) rfl .nil) ?_
    refine CW.ret ?_
    refine RQ.block ?_
    exact RQ.ownB (l := bodyR r) rfl rfl (by first | exact .keep (Split.none _) | exact .drop (.keep (Split.none _)) | exact .drop (.drop (.keep (Split.none _)))) (by unfold bodyR; simp [hk, beN_length, be4_length, be8'_length, keyL]) (by unfold bodyR; simp [hk, keyL]) (by first | assumption | (right; rfl))
  ·
    refine RL.buildOwn [_] Tryz.runUnderlying26 Tryz.sizeOf5 Tryz.zeroValue5 rfl rfl (by decide) (by decide) rfl (by decide) rfl rfl rfl rfl rfl rfl ?_
    intro b3
    refine RL.callq (rnum r.interval 4 (by decide)) Tryz.call108 rfl rfl rfl rfl rfl (.inl rfl) ?_
    rintro _ _ _ ⟨ob1, cap1, rfl, rfl, rfl, ho1⟩
    refine RL.appendq el_26 rfl rfl rfl rfl rfl rfl rfl ?_ (hs := (by first | (exact Src.cel (by (solve | (repeat (first | exact List.Mem.head _ | apply List.Mem.tail)))) (by first | rfl | assumption | (simp only [List.length_map]; assumption) | (simp only [List.length_map, List.length_replicate]; done) | (simp; done))) | (exact Src.ownS (by (solve | (repeat (first | exact List.Mem.head _ | apply List.Mem.tail))))) | (exact Src.own (by (solve | (repeat (first | exact List.Mem.head _ | apply List.Mem.tail))))) | (exact Src.sls (by (solve | (repeat (first | exact List.Mem.head _ | apply List.Mem.tail))))) | (exact Src.celI (by (solve | (repeat (first | exact List.Mem.head _ | apply List.Mem.tail)))) (by first | rfl | assumption | (simp only [List.length_map]; assumption) | (simp only [List.length_map, List.length_replicate]; done) | (simp; done)))))
    intro ob2 cap2 ho2
    refine RL.callq (rplace r.p0 r.p1 r.p2) Tryz.call109 rfl rfl rfl rfl rfl (.inl rfl) ?_
    rintro _ _ _ ⟨ob3, cap3, rfl, rfl, rfl, ho3⟩
    refine RL.appendq el_26 rfl rfl rfl rfl rfl rfl rfl ?_ (hs := (by first | (exact Src.cel (by (solve | (repeat (first | exact List.Mem.head _ | apply List.Mem.tail)))) (by first | rfl | assumption | (simp only [List.length_map]; assumption) | (simp only [List.length_map, List.length_replicate]; done) | (simp; done))) | (exact Src.ownS (by (solve | (repeat (first | exact List.Mem.head _ | apply List.Mem.tail))))) | (exact Src.own (by (solve | (repeat (first | exact List.Mem.head _ | apply List.Mem.tail))))) | (exact Src.sls (by (solve | (repeat (first | exact List.Mem.head _ | apply List.Mem.tail))))) | (exact Src.celI (by (solve | (repeat (first | exact List.Mem.head _ | apply List.Mem.tail)))) (by first | rfl | assumption | (simp only [List.length_map]; assumption) | (simp only [List.length_map, List.length_replicate]; done) | (simp; done)))))
    intro ob4 cap4 ho4
    refine RL.assign rfl rfl rfl rfl ?_
    refine RL.nil ?_
    refine NQ.seq ?_
    refine CW.only (.cons (k := 2) rfl .nil) ?_
    refine CW.ret ?_
    refine RQ.block ?_
    exact RQ.ownB (l := bodyR r) rfl rfl (by first | exact .keep (Split.none _) | exact .drop (.keep (Split.none _)) | exact .drop (.drop (.keep (Split.none _)))) (by unfold bodyR; simp [hk, beN_length, be4_length, be8'_length, keyL]) (by unfold bodyR; simp [hk, keyL]) (by first | assumption | (right; rfl))
set_option maxHeartbeats 4000000 in
theorem rbody_6 (r : Rdg) (hk : r.kind = 6) (hr : r.Ok) : Spc Tryz.prog 87 #[.agg r.cells.toArray] [] [] (OwnB (bodyR r)) := by
  refine Spc.enter Tryz.func87 rfl rfl rfl (fun w0 hw0 => ?_)
  refine CW.seq ?_
  refine CW.region (ef := [0]) (bk := []) ?_
  refine RL.box rfl rfl rfl rfl rfl rfl ?_
  intro b1
  refine RL.assign rfl rfl rfl rfl ?_
  refine RL.nil ?_
  refine NQ.seq ?_
  refine CW.seq ?_
  refine CW.freezeAll rfl ?_
  simp only [List.cons_append, List.nil_append]
  refine CW.region (ef := [0]) (bk := []) ?_
  refine RL.buildOwn [] Tryz.runUnderlying26 Tryz.sizeOf5 Tryz.zeroValue5 rfl rfl (by decide) (by decide) rfl (by decide) rfl rfl rfl rfl rfl rfl ?_
  intro b2
  refine RL.assign rfl rfl rfl rfl ?_
  refine RL.nil ?_
  refine NQ.seq ?_
  refine CW.seq ?_
  refine CW.region (ef := []) (bk := []) ?_
  refine RL.fieldAddr fa_68_0 rfl rfl rfl rfl ?_
  refine RL.loadq Tryz.isAgg3 rfl rfl rfl rfl ?_
  refine RL.nil ?_
  refine NQ.seq ?_
  refine CW.block ?_
  refine CW.seq ?_
  refine CW.region (ef := []) (bk := []) ?_
  refine RL.bin rfl rfl rfl rfl rfl rfl ?_
  refine RL.assign rfl rfl rfl rfl ?_
  refine RL.nil ?_
  refine NQ.seq ?_
  refine CW.condF rfl ((by rw [hk]; rfl)) ?_
  refine CW.seq ?_
  refine CW.region (ef := []) (bk := []) ?_
  refine RL.bin rfl rfl rfl rfl rfl rfl ?_
  refine RL.assign rfl rfl rfl rfl ?_
  refine RL.nil ?_
  refine NQ.seq ?_
  refine CW.only (.cons (k := 1) rfl (.cons (k := 3) rfl (.cons (k := 8) rfl (.cons (k := 35) rfl .nil)))) ?_
  refine CW.condF rfl ((by rw [hk]; rfl)) ?_
  refine CW.seq ?_
  refine CW.region (ef := []) (bk := []) ?_
  refine RL.bin rfl rfl rfl rfl rfl rfl ?_
  refine RL.assign rfl rfl rfl rfl ?_
  refine RL.nil ?_
  refine NQ.seq ?_
  refine CW.condF rfl ((by rw [hk]; rfl)) ?_
  refine CW.seq ?_
  refine CW.region (ef := []) (bk := []) ?_
  refine RL.bin rfl rfl rfl rfl rfl rfl ?_
  refine RL.assign rfl rfl rfl rfl ?_
  refine RL.nil ?_
  refine NQ.seq ?_
  refine CW.condF rfl ((by rw [hk]; rfl)) ?_
  refine CW.seq ?_
  refine CW.region (ef := []) (bk := []) ?_
  refine RL.bin rfl rfl rfl rfl rfl rfl ?_
  refine RL.assign rfl rfl rfl rfl ?_
  refine RL.nil ?_
  refine NQ.seq ?_
  refine CW.only (.cons (k := 1) rfl (.cons (k := 3) rfl (.cons (k := 8) rfl (.cons (k := 56) rfl .nil)))) ?_
  refine CW.condF rfl ((by rw [hk]; rfl)) ?_
  refine CW.seq ?_
  refine CW.region (ef := []) (bk := []) ?_
  refine RL.bin rfl rfl rfl rfl rfl rfl ?_
  refine RL.assign rfl rfl rfl rfl ?_
  refine RL.nil ?_
  refine NQ.seq ?_
  refine CW.condT rfl ((by rw [hk]; rfl)) ?_
  refine CW.also (sls (some ⟨b1, 0 + 16, none⟩) 1 32 (bytes (keyL r.key))) (fun w hw => cel_sls (hw.i _ (by repeat (first | exact List.Mem.head _ | apply List.Mem.tail))) rfl (key_in r)) (fun c hc => by simpa [sls, cel] using hc) ?_
  refine CW.seq ?_
  refine CW.regionD (Sq.of [0, 1, 2, 4, 5, 3, 6, 7]) [3, 6] [6] [0, 1, 2, 4, 5, 7] mixed (by kernel_rfl) ?_
  refine RL.fieldAddr fa_68_7 rfl rfl rfl rfl ?_
  refine RL.loadTq Tryz.isAgg24 rfl rfl rfl rfl ?_
  refine RL.conv Tryz.runUnderlying24 Tryz.runUnderlying25 rfl rfl rfl rfl ?_
  refine RL.fieldAddr fa_68_10 rfl rfl rfl rfl ?_
  refine RL.sliceAll Tryz.runUnderlying23 Tryz.sizeOf5 (by decide) rfl rfl rfl rfl ?_
  refine RL.callq (rnum r.interval 4 (by decide)) Tryz.call108 rfl rfl rfl rfl rfl (.inl rfl) ?_
  rintro _ _ _ ⟨ob1, cap1, rfl, rfl, rfl, ho1⟩
  refine RL.appendq el_26 rfl rfl rfl rfl rfl rfl rfl ?_ (hs := (by first | (exact Src.cel (by (solve | (repeat (first | exact List.Mem.head _ | apply List.Mem.tail)))) (by first | rfl | assumption | (simp only [List.length_map]; assumption) | (simp only [List.length_map, List.length_replicate]; done) | (simp; done))) | (exact Src.ownS (by (solve | (repeat (first | exact List.Mem.head _ | apply List.Mem.tail))))) | (exact Src.own (by (solve | (repeat (first | exact List.Mem.head _ | apply List.Mem.tail))))) | (exact Src.sls (by (solve | (repeat (first | exact List.Mem.head _ | apply List.Mem.tail))))) | (exact Src.celI (by (solve | (repeat (first | exact List.Mem.head _ | apply List.Mem.tail)))) (by first | rfl | assumption | (simp only [List.length_map]; assumption) | (simp only [List.length_map, List.length_replicate]; done) | (simp; done)))))
  intro ob2 cap2 ho2
  refine RL.assign rfl rfl rfl rfl ?_
  refine RL.nil ?_
  refine NQ.seq ?_
  refine CW.only (.cons (k := 2) rfl .nil) ?_
  refine CW.ret ?_
  refine RQ.block ?_
  exact RQ.ownB (l := bodyR r) rfl rfl (by first | exact .keep (Split.none _) | exact .drop (.keep (Split.none _)) | exact .drop (.drop (.keep (Split.none _)))) (by unfold bodyR; simp [hk, beN_length, be4_length, be8'_length, keyL]) (by unfold bodyR; simp [hk, keyL]) (by first | assumption | (right; rfl))
set_option maxHeartbeats 4000000 in
theorem rbody_7 (r : Rdg) (hk : r.kind = 7) (hr : r.Ok) : Spc Tryz.prog 87 #[.agg r.cells.toArray] [] [] (OwnB (bodyR r)) := by
  refine Spc.enter Tryz.func87 rfl rfl rfl (fun w0 hw0 => ?_)
  refine CW.seq ?_
  refine CW.region (ef := [0]) (bk := []) ?_
  refine RL.box rfl rfl rfl rfl rfl rfl ?_
  intro b1
  refine RL.assign rfl rfl rfl rfl ?_
  refine RL.nil ?_
  refine NQ.seq ?_
  refine CW.seq ?_
  refine CW.freezeAll rfl ?_
  simp only [List.cons_append, List.nil_append]
  refine CW.region (ef := [0]) (bk := []) ?_
  refine RL.buildOwn [] Tryz.runUnderlying26 Tryz.sizeOf5 Tryz.zeroValue5 rfl rfl (by decide) (by decide) rfl (by decide) rfl rfl rfl rfl rfl rfl ?_
  intro b2
  refine RL.assign rfl rfl rfl rfl ?_
  refine RL.nil ?_
  refine NQ.seq ?_
  refine CW.seq ?_
  refine CW.region (ef := []) (bk := []) ?_
  refine RL.fieldAddr fa_68_0 rfl rfl rfl rfl ?_
  refine RL.loadq Tryz.isAgg3 rfl rfl rfl rfl ?_
  refine RL.nil ?_
  refine NQ.seq ?_
  refine CW.block ?_
  refine CW.seq ?_
  refine CW.region (ef := []) (bk := []) ?_
  refine RL.bin rfl rfl rfl rfl rfl rfl ?_
  refine RL.assign rfl rfl rfl rfl ?_
  refine RL.nil ?_
  refine NQ.seq ?_
  refine CW.condF rfl ((by rw [hk]; rfl)) ?_
  refine CW.seq ?_
  refine CW.region (ef := []) (bk := []) ?_
  refine RL.bin rfl rfl rfl rfl rfl rfl ?_
  refine RL.assign rfl rfl rfl rfl ?_
  refine RL.nil ?_
  refine NQ.seq ?_
  refine CW.only (.cons (k := 1) rfl (.cons (k := 3) rfl (.cons (k := 8) rfl (.cons (k := 35) rfl .nil)))) ?_
  refine CW.condF rfl ((by rw [hk]; rfl)) ?_
  refine CW.seq ?_
  refine CW.region (ef := []) (bk := []) ?_
  refine RL.bin rfl rfl rfl rfl rfl rfl ?_
  refine RL.assign rfl rfl rfl rfl ?_
  refine RL.nil ?_
  refine NQ.seq ?_
  refine CW.condF rfl ((by rw [hk]; rfl)) ?_
  refine CW.seq ?_
  refine CW.region (ef := []) (bk := []) ?_
  refine RL.bin rfl rfl rfl rfl rfl rfl ?_
  refine RL.assign rfl rfl rfl rfl ?_
  refine RL.nil ?_
  refine NQ.seq ?_
  refine CW.condF rfl ((by rw [hk]; rfl)) ?_
  refine CW.seq ?_
  refine CW.region (ef := []) (bk := []) ?_
  refine RL.bin rfl rfl rfl rfl rfl rfl ?_
  refine RL.assign rfl rfl rfl rfl ?_
  refine RL.nil ?_
  refine NQ.seq ?_
  refine CW.only (.cons (k := 1) rfl (.cons (k := 3) rfl (.cons (k := 8) rfl (.cons (k := 56) rfl .nil)))) ?_
  refine CW.condF rfl ((by rw [hk]; rfl)) ?_
  refine CW.seq ?_
  refine CW.region (ef := []) (bk := []) ?_
  refine RL.bin rfl rfl rfl rfl rfl rfl ?_
  refine RL.assign rfl rfl rfl rfl ?_
  refine RL.nil ?_
  refine NQ.seq ?_
  refine CW.condF rfl ((by rw [hk]; rfl)) ?_
  refine CW.seq ?_
  refine CW.region (ef := []) (bk := []) ?_
  refine RL.bin rfl rfl rfl rfl rfl rfl ?_
  refine RL.assign rfl rfl rfl rfl ?_
  refine RL.nil ?_
  refine NQ.seq ?_
  refine CW.condT rfl ((by rw [hk]; rfl)) ?_
  refine CW.seq ?_
  refine CW.region (ef := [2]) (bk := []) ?_
  refine RL.fieldAddr fa_68_11 rfl rfl rfl rfl ?_
  refine RL.loadq Tryz.isAgg25 rfl rfl rfl rfl ?_
  refine RL.callq (rnumT r.tick hr.tick 8 (by decide)) Tryz.call108 rfl rfl rfl rfl rfl (.inl rfl) ?_
  rintro _ _ _ ⟨ob1, cap1, rfl, rfl, rfl, ho1⟩
  refine RL.assign rfl rfl rfl rfl ?_
  refine RL.nil ?_
  refine NQ.seq ?_
  refine CW.only (.cons (k := 2) rfl .nil) ?_
  refine CW.ret ?_
  refine RQ.block ?_
  exact RQ.ownB (l := bodyR r) rfl rfl (by first | exact .keep (Split.none _) | exact .drop (.keep (Split.none _)) | exact .drop (.drop (.keep (Split.none _)))) (by unfold bodyR; simp [hk, beN_length, be4_length, be8'_length, keyL]) (by unfold bodyR; simp [hk, keyL]) (by first | assumption | (right; rfl))
set_option maxHeartbeats 4000000 in
theorem rbody_8 (r : Rdg) (hk : r.kind = 8) (hr : r.Ok) : Spc Tryz.prog 87 #[.agg r.cells.toArray] [] [] (OwnB (bodyR r)) := by
  refine Spc.enter Tryz.func87 rfl rfl rfl (fun w0 hw0 => ?_)
  refine CW.seq ?_
  refine CW.region (ef := [0]) (bk := []) ?_
  refine RL.box rfl rfl rfl rfl rfl rfl ?_
  intro b1
  refine RL.assign rfl rfl rfl rfl ?_
  refine RL.nil ?_
  refine NQ.seq ?_
  refine CW.seq ?_
  refine CW.freezeAll rfl ?_
  simp only [List.cons_append, List.nil_append]
  refine CW.region (ef := [0]) (bk := []) ?_
  refine RL.buildOwn [] Tryz.runUnderlying26 Tryz.sizeOf5 Tryz.zeroValue5 rfl rfl (by decide) (by decide) rfl (by decide) rfl rfl rfl rfl rfl rfl ?_
  intro b2
  refine RL.assign rfl rfl rfl rfl ?_
  refine RL.nil ?_
  refine NQ.seq ?_
  refine CW.seq ?_
  refine CW.region (ef := []) (bk := []) ?_
  refine RL.fieldAddr fa_68_0 rfl rfl rfl rfl ?_
  refine RL.loadq Tryz.isAgg3 rfl rfl rfl rfl ?_
  refine RL.nil ?_
  refine NQ.seq ?_
  refine CW.block ?_
  refine CW.seq ?_
  refine CW.region (ef := []) (bk := []) ?_
  refine RL.bin rfl rfl rfl rfl rfl rfl ?_
  refine RL.assign rfl rfl rfl rfl ?_
  refine RL.nil ?_
  refine NQ.seq ?_
  refine CW.condF rfl ((by rw [hk]; rfl)) ?_
  refine CW.seq ?_
  refine CW.region (ef := []) (bk := []) ?_
  refine RL.bin rfl rfl rfl rfl rfl rfl ?_
  refine RL.assign rfl rfl rfl rfl ?_
  refine RL.nil ?_
  refine NQ.seq ?_
  refine CW.only (.cons (k := 1) rfl (.cons (k := 3) rfl (.cons (k := 8) rfl (.cons (k := 35) rfl .nil)))) ?_
  refine CW.condF rfl ((by rw [hk]; rfl)) ?_
  refine CW.seq ?_
  refine CW.region (ef := []) (bk := []) ?_
  refine RL.bin rfl rfl rfl rfl rfl rfl ?_
  refine RL.assign rfl rfl rfl rfl ?_
  refine RL.nil ?_
  refine NQ.seq ?_
  refine CW.condF rfl ((by rw [hk]; rfl)) ?_
  refine CW.seq ?_
  refine CW.region (ef := []) (bk := []) ?_
  refine RL.bin rfl rfl rfl rfl rfl rfl ?_
  refine RL.assign rfl rfl rfl rfl ?_
  refine RL.nil ?_
  refine NQ.seq ?_
  refine CW.condF rfl ((by rw [hk]; rfl)) ?_
  refine CW.seq ?_
  refine CW.region (ef := []) (bk := []) ?_
  refine RL.bin rfl rfl rfl rfl rfl rfl ?_
  refine RL.assign rfl rfl rfl rfl ?_
  refine RL.nil ?_
  refine NQ.seq ?_
  refine CW.only (.cons (k := 1) rfl (.cons (k := 3) rfl (.cons (k := 8) rfl (.cons (k := 56) rfl .nil)))) ?_
  refine CW.condF rfl ((by rw [hk]; rfl)) ?_
  refine CW.seq ?_
  refine CW.region (ef := []) (bk := []) ?_
  refine RL.bin rfl rfl rfl rfl rfl rfl ?_
  refine RL.assign rfl rfl rfl rfl ?_
  refine RL.nil ?_
  refine NQ.seq ?_
  refine CW.condF rfl ((by rw [hk]; rfl)) ?_
  refine CW.seq ?_
  refine CW.region (ef := []) (bk := []) ?_
  refine RL.bin rfl rfl rfl rfl rfl rfl ?_
  refine RL.assign rfl rfl rfl rfl ?_
  refine RL.nil ?_
  refine NQ.seq ?_
  refine CW.condF rfl ((by rw [hk]; rfl)) ?_
  refine CW.seq ?_
  refine CW.region (ef := []) (bk := []) ?_
  refine RL.bin rfl rfl rfl rfl rfl rfl ?_
  refine RL.assign rfl rfl rfl rfl ?_
  refine RL.nil ?_
  refine NQ.seq ?_
  refine CW.only (.cons (k := 1) rfl (.cons (k := 3) rfl (.cons (k := 8) rfl (.cons (k := 84) rfl .nil)))) ?_
  refine CW.condT rfl ((by rw [hk]; rfl)) ?_
  refine CW.seq ?_
  refine CW.region (ef := [2]) (bk := []) ?_
  refine RL.fieldAddr fa_68_12 rfl rfl rfl rfl ?_
  refine RL.loadq Tryz.isAgg5 rfl rfl rfl rfl ?_
  refine RL.buildOwn [_] Tryz.runUnderlying26 Tryz.sizeOf5 Tryz.zeroValue5 rfl rfl (by decide) (by decide) rfl (by decide) rfl rfl rfl rfl rfl rfl ?_
  intro b3
  refine RL.assign rfl rfl rfl rfl ?_
  refine RL.nil ?_
  refine NQ.seq ?_
  refine CW.only (.cons (k := 2) rfl .nil) ?_
  refine CW.ret ?_
  refine RQ.block ?_
  exact RQ.ownB (l := bodyR r) rfl rfl (by first | exact .keep (Split.none _) | exact .drop (.keep (Split.none _)) | exact .drop (.drop (.keep (Split.none _)))) (by unfold bodyR; simp [hk, beN_length, be4_length, be8'_length, keyL]) (by unfold bodyR; simp [hk, keyL]) (by first | assumption | (right; rfl))
set_option maxHeartbeats 4000000 in
theorem rbody_10 (r : Rdg) (hk : r.kind = 10) (hr : r.Ok) : Spc Tryz.prog 87 #[.agg r.cells.toArray] [] [] (OwnB (bodyR r)) := by
  refine Spc.enter Tryz.func87 rfl rfl rfl (fun w0 hw0 => ?_)
  refine CW.seq ?_
  refine CW.region (ef := [0]) (bk := []) ?_
  refine RL.box rfl rfl rfl rfl rfl rfl ?_
  intro b1
  refine RL.assign rfl rfl rfl rfl ?_
  refine RL.nil ?_
  refine NQ.seq ?_
  refine CW.seq ?_
  refine CW.freezeAll rfl ?_
  simp only [List.cons_append, List.nil_append]
  refine CW.region (ef := [0]) (bk := []) ?_
  refine RL.buildOwn [] Tryz.runUnderlying26 Tryz.sizeOf5 Tryz.zeroValue5 rfl rfl (by decide) (by decide) rfl (by decide) rfl rfl rfl rfl rfl rfl ?_
  intro b2
  refine RL.assign rfl rfl rfl rfl ?_
  refine RL.nil ?_
  refine NQ.seq ?_
  refine CW.seq ?_
  refine CW.region (ef := []) (bk := []) ?_
  refine RL.fieldAddr fa_68_0 rfl rfl rfl rfl ?_
  refine RL.loadq Tryz.isAgg3 rfl rfl rfl rfl ?_
  refine RL.nil ?_
  refine NQ.seq ?_
  refine CW.block ?_
  refine CW.seq ?_
  refine CW.region (ef := []) (bk := []) ?_
  refine RL.bin rfl rfl rfl rfl rfl rfl ?_
  refine RL.assign rfl rfl rfl rfl ?_
  refine RL.nil ?_
  refine NQ.seq ?_
  refine CW.condF rfl ((by rw [hk]; rfl)) ?_
  refine CW.seq ?_
  refine CW.region (ef := []) (bk := []) ?_
  refine RL.bin rfl rfl rfl rfl rfl rfl ?_
  refine RL.assign rfl rfl rfl rfl ?_
  refine RL.nil ?_
  refine NQ.seq ?_
  refine CW.only (.cons (k := 1) rfl (.cons (k := 3) rfl (.cons (k := 8) rfl (.cons (k := 35) rfl .nil)))) ?_
  refine CW.condF rfl ((by rw [hk]; rfl)) ?_
  refine CW.seq ?_
  refine CW.region (ef := []) (bk := []) ?_
  refine RL.bin rfl rfl rfl rfl rfl rfl ?_
  refine RL.assign rfl rfl rfl rfl ?_
  refine RL.nil ?_
  refine NQ.seq ?_
  refine CW.condF rfl ((by rw [hk]; rfl)) ?_
  refine CW.seq ?_
  refine CW.region (ef := []) (bk := []) ?_
  refine RL.bin rfl rfl rfl rfl rfl rfl ?_
  refine RL.assign rfl rfl rfl rfl ?_
  refine RL.nil ?_
  refine NQ.seq ?_
  refine CW.condF rfl ((by rw [hk]; rfl)) ?_
  refine CW.seq ?_
  refine CW.region (ef := []) (bk := []) ?_
  refine RL.bin rfl rfl rfl rfl rfl rfl ?_
  refine RL.assign rfl rfl rfl rfl ?_
  refine RL.nil ?_
  refine NQ.seq ?_
  refine CW.only (.cons (k := 1) rfl (.cons (k := 3) rfl (.cons (k := 8) rfl (.cons (k := 56) rfl .nil)))) ?_
  refine CW.condF rfl ((by rw [hk]; rfl)) ?_
  refine CW.seq ?_
  refine CW.region (ef := []) (bk := []) ?_
  refine RL.bin rfl rfl rfl rfl rfl rfl ?_
  refine RL.assign rfl rfl rfl rfl ?_
  refine RL.nil ?_
  refine NQ.seq ?_
  refine CW.condF rfl ((by rw [hk]; rfl)) ?_
  refine CW.seq ?_
  refine CW.region (ef := []) (bk := []) ?_
  refine RL.bin rfl rfl rfl rfl rfl rfl ?_
  refine RL.assign rfl rfl rfl rfl ?_
  refine RL.nil ?_
  refine NQ.seq ?_
  refine CW.condF rfl ((by rw [hk]; rfl)) ?_
  refine CW.seq ?_
  refine CW.region (ef := []) (bk := []) ?_
  refine RL.bin rfl rfl rfl rfl rfl rfl ?_
  refine RL.assign rfl rfl rfl rfl ?_
  refine RL.nil ?_
  refine NQ.seq ?_
  refine CW.only (.cons (k := 1) rfl (.cons (k := 3) rfl (.cons (k := 8) rfl (.cons (k := 84) rfl .nil)))) ?_
  refine CW.condF rfl ((by rw [hk]; rfl)) ?_
  refine CW.seq ?_
  refine CW.region (ef := []) (bk := []) ?_
  refine RL.bin rfl rfl rfl rfl rfl rfl ?_
  refine RL.assign rfl rfl rfl rfl ?_
  refine RL.nil ?_
  refine NQ.seq ?_
  refine CW.condT rfl ((by rw [hk]; rfl)) ?_
  refine CW.seq ?_
  refine CW.region (ef := [3]) (bk := []) ?_
  refine RL.fieldAddr fa_68_13 rfl rfl rfl rfl ?_
  refine RL.loadq Tryz.isAgg24 rfl rfl rfl rfl ?_
  refine RL.conv Tryz.runUnderlying24 Tryz.runUnderlying25 rfl rfl rfl rfl ?_
  refine RL.callq (rnum r.epoch 4 (by decide)) Tryz.call108 rfl rfl rfl rfl rfl (.inl rfl) ?_
  rintro _ _ _ ⟨ob1, cap1, rfl, rfl, rfl, ho1⟩
  refine RL.assign rfl rfl rfl rfl ?_
  refine RL.nil ?_
  refine NQ.seq ?_
  refine CW.only (.cons (k := 2) rfl .nil) ?_
  refine CW.ret ?_
  refine RQ.block ?_
  exact RQ.ownB (l := bodyR r) rfl rfl (by first | exact .keep (Split.none _) | exact .drop (.keep (Split.none _)) | exact .drop (.drop (.keep (Split.none _)))) (by unfold bodyR; simp [hk, beN_length, be4_length, be8'_length, keyL]) (by unfold bodyR; simp [hk, keyL]) (by first | assumption | (right; rfl))
set_option maxHeartbeats 4000000 in
theorem rbody_12 (r : Rdg) (hk : r.kind = 12) (hr : r.Ok) : Spc Tryz.prog 87 #[.agg r.cells.toArray] [] [] (OwnB (bodyR r)) := by
  refine Spc.enter Tryz.func87 rfl rfl rfl (fun w0 hw0 => ?_)
  refine CW.seq ?_
  refine CW.region (ef := [0]) (bk := []) ?_
  refine RL.box rfl rfl rfl rfl rfl rfl ?_
  intro b1
  refine RL.assign rfl rfl rfl rfl ?_
  refine RL.nil ?_
  refine NQ.seq ?_
  refine CW.seq ?_
  refine CW.freezeAll rfl ?_
  simp only [List.cons_append, List.nil_append]
  refine CW.region (ef := [0]) (bk := []) ?_
  refine RL.buildOwn [] Tryz.runUnderlying26 Tryz.sizeOf5 Tryz.zeroValue5 rfl rfl (by decide) (by decide) rfl (by decide) rfl rfl rfl rfl rfl rfl ?_
  intro b2
  refine RL.assign rfl rfl rfl rfl ?_
  refine RL.nil ?_
  refine NQ.seq ?_
  refine CW.seq ?_
  refine CW.region (ef := []) (bk := []) ?_
  refine RL.fieldAddr fa_68_0 rfl rfl rfl rfl ?_
  refine RL.loadq Tryz.isAgg3 rfl rfl rfl rfl ?_
  refine RL.nil ?_
  refine NQ.seq ?_
  refine CW.block ?_
  refine CW.seq ?_
  refine CW.region (ef := []) (bk := []) ?_
  refine RL.bin rfl rfl rfl rfl rfl rfl ?_
  refine RL.assign rfl rfl rfl rfl ?_
  refine RL.nil ?_
  refine NQ.seq ?_
  refine CW.condF rfl ((by rw [hk]; rfl)) ?_
  refine CW.seq ?_
  refine CW.region (ef := []) (bk := []) ?_
  refine RL.bin rfl rfl rfl rfl rfl rfl ?_
  refine RL.assign rfl rfl rfl rfl ?_
  refine RL.nil ?_
  refine NQ.seq ?_
  refine CW.only (.cons (k := 1) rfl (.cons (k := 3) rfl (.cons (k := 8) rfl (.cons (k := 35) rfl .nil)))) ?_
  refine CW.condF rfl ((by rw [hk]; rfl)) ?_
  refine CW.seq ?_
  refine CW.region (ef := []) (bk := []) ?_
  refine RL.bin rfl rfl rfl rfl rfl rfl ?_
  refine RL.assign rfl rfl rfl rfl ?_
  refine RL.nil ?_
  refine NQ.seq ?_
  refine CW.condF rfl ((by rw [hk]; rfl)) ?_
  refine CW.seq ?_
  refine CW.region (ef := []) (bk := []) ?_
  refine RL.bin rfl rfl rfl rfl rfl rfl ?_
  refine RL.assign rfl rfl rfl rfl ?_
  refine RL.nil ?_
  refine NQ.seq ?_
  refine CW.condF rfl ((by rw [hk]; rfl)) ?_
  refine CW.seq ?_
  refine CW.region (ef := []) (bk := []) ?_
  refine RL.bin rfl rfl rfl rfl rfl rfl ?_
  refine RL.assign rfl rfl rfl rfl ?_
  refine RL.nil ?_
  refine NQ.seq ?_
  refine CW.only (.cons (k := 1) rfl (.cons (k := 3) rfl (.cons (k := 8) rfl (.cons (k := 56) rfl .nil)))) ?_
  refine CW.condF rfl ((by rw [hk]; rfl)) ?_
  refine CW.seq ?_
  refine CW.region (ef := []) (bk := []) ?_
  refine RL.bin rfl rfl rfl rfl rfl rfl ?_
  refine RL.assign rfl rfl rfl rfl ?_
  refine RL.nil ?_
  refine NQ.seq ?_
  refine CW.condF rfl ((by rw [hk]; rfl)) ?_
  refine CW.seq ?_
  refine CW.region (ef := []) (bk := []) ?_
  refine RL.bin rfl rfl rfl rfl rfl rfl ?_
  refine RL.assign rfl rfl rfl rfl ?_
  refine RL.nil ?_
  refine NQ.seq ?_
  refine CW.condF rfl ((by rw [hk]; rfl)) ?_
  refine CW.seq ?_
  refine CW.region (ef := []) (bk := []) ?_
  refine RL.bin rfl rfl rfl rfl rfl rfl ?_
  refine RL.assign rfl rfl rfl rfl ?_
  refine RL.nil ?_
  refine NQ.seq ?_
  refine CW.only (.cons (k := 1) rfl (.cons (k := 3) rfl (.cons (k := 8) rfl (.cons (k := 84) rfl .nil)))) ?_
  refine CW.condF rfl ((by rw [hk]; rfl)) ?_
  refine CW.seq ?_
  refine CW.region (ef := []) (bk := []) ?_
  refine RL.bin rfl rfl rfl rfl rfl rfl ?_
  refine RL.assign rfl rfl rfl rfl ?_
  refine RL.nil ?_
  refine NQ.seq ?_
  refine CW.condF rfl ((by rw [hk]; rfl)) ?_
  refine CW.seq ?_
  refine CW.region (ef := []) (bk := []) ?_
  refine RL.bin rfl rfl rfl rfl rfl rfl ?_
  refine RL.assign rfl rfl rfl rfl ?_
  refine RL.nil ?_
  refine NQ.seq ?_
  refine CW.condT rfl ((by rw [hk]; rfl)) ?_
  refine CW.seq ?_
  refine CW.region (ef := [2]) (bk := []) ?_
  refine RL.fieldAddr fa_68_16 rfl rfl rfl rfl ?_
  refine RL.loadq Tryz.isAgg5 rfl rfl rfl rfl ?_
  refine RL.buildOwn [_] Tryz.runUnderlying26 Tryz.sizeOf5 Tryz.zeroValue5 rfl rfl (by decide) (by decide) rfl (by decide) rfl rfl rfl rfl rfl rfl ?_
  intro b3
  refine RL.assign rfl rfl rfl rfl ?_
  refine RL.nil ?_
  refine NQ.seq ?_
  refine CW.only (.cons (k := 2) rfl .nil) ?_
  refine CW.ret ?_
  refine RQ.block ?_
  exact RQ.ownB (l := bodyR r) rfl rfl (by first | exact .keep (Split.none _) | exact .drop (.keep (Split.none _)) | exact .drop (.drop (.keep (Split.none _)))) (by unfold bodyR; simp [hk, beN_length, be4_length, be8'_length, keyL]) (by unfold bodyR; simp [hk, keyL]) (by first | assumption | (right; rfl))
set_option maxHeartbeats 4000000 in
theorem rbody_13 (r : Rdg) (hk : r.kind = 13) (hr : r.Ok) : Spc Tryz.prog 87 #[.agg r.cells.toArray] [] [] (OwnB (bodyR r)) := by
  refine Spc.enter Tryz.func87 rfl rfl rfl (fun w0 hw0 => ?_)
  refine CW.seq ?_
  refine CW.region (ef := [0]) (bk := []) ?_
  refine RL.box rfl rfl rfl rfl rfl rfl ?_
  intro b1
  refine RL.assign rfl rfl rfl rfl ?_
  refine RL.nil ?_
  refine NQ.seq ?_
  refine CW.seq ?_
  refine CW.freezeAll rfl ?_
  simp only [List.cons_append, List.nil_append]
  refine CW.region (ef := [0]) (bk := []) ?_
  refine RL.buildOwn [] Tryz.runUnderlying26 Tryz.sizeOf5 Tryz.zeroValue5 rfl rfl (by decide) (by decide) rfl (by decide) rfl rfl rfl rfl rfl rfl ?_
  intro b2
  refine RL.assign rfl rfl rfl rfl ?_
  refine RL.nil ?_
  refine NQ.seq ?_
  refine CW.seq ?_
  refine CW.region (ef := []) (bk := []) ?_
  refine RL.fieldAddr fa_68_0 rfl rfl rfl rfl ?_
  refine RL.loadq Tryz.isAgg3 rfl rfl rfl rfl ?_
  refine RL.nil ?_
  refine NQ.seq ?_
  refine CW.block ?_
  refine CW.seq ?_
  refine CW.region (ef := []) (bk := []) ?_
  refine RL.bin rfl rfl rfl rfl rfl rfl ?_
  refine RL.assign rfl rfl rfl rfl ?_
  refine RL.nil ?_
  refine NQ.seq ?_
  refine CW.condF rfl ((by rw [hk]; rfl)) ?_
  refine CW.seq ?_
  refine CW.region (ef := []) (bk := []) ?_
  refine RL.bin rfl rfl rfl rfl rfl rfl ?_
  refine RL.assign rfl rfl rfl rfl ?_
  refine RL.nil ?_
  refine NQ.seq ?_
  refine CW.only (.cons (k := 1) rfl (.cons (k := 3) rfl (.cons (k := 8) rfl (.cons (k := 35) rfl .nil)))) ?_
  refine CW.condF rfl ((by rw [hk]; rfl)) ?_
  refine CW.seq ?_
  refine CW.region (ef := []) (bk := []) ?_
  refine RL.bin rfl rfl rfl rfl rfl rfl ?_
  refine RL.assign rfl rfl rfl rfl ?_
  refine RL.nil ?_
  refine NQ.seq ?_
  refine CW.condF rfl ((by rw [hk]; rfl)) ?_
  refine CW.seq ?_
  refine CW.region (ef := []) (bk := []) ?_
  refine RL.bin rfl rfl rfl rfl rfl rfl ?_
  refine RL.assign rfl rfl rfl rfl ?_
  refine RL.nil ?_
  refine NQ.seq ?_
  refine CW.condF rfl ((by rw [hk]; rfl)) ?_
  refine CW.seq ?_
  refine CW.region (ef := []) (bk := []) ?_
  refine RL.bin rfl rfl rfl rfl rfl rfl ?_
  refine RL.assign rfl rfl rfl rfl ?_
  refine RL.nil ?_
  refine NQ.seq ?_
  refine CW.only (.cons (k := 1) rfl (.cons (k := 3) rfl (.cons (k := 8) rfl (.cons (k := 56) rfl .nil)))) ?_
  refine CW.condF rfl ((by rw [hk]; rfl)) ?_
  refine CW.seq ?_
  refine CW.region (ef := []) (bk := []) ?_
  refine RL.bin rfl rfl rfl rfl rfl rfl ?_
  refine RL.assign rfl rfl rfl rfl ?_
  refine RL.nil ?_
  refine NQ.seq ?_
  refine CW.condF rfl ((by rw [hk]; rfl)) ?_
  refine CW.seq ?_
  refine CW.region (ef := []) (bk := []) ?_
  refine RL.bin rfl rfl rfl rfl rfl rfl ?_
  refine RL.assign rfl rfl rfl rfl ?_
  refine RL.nil ?_
  refine NQ.seq ?_
  refine CW.condF rfl ((by rw [hk]; rfl)) ?_
  refine CW.seq ?_
  refine CW.region (ef := []) (bk := []) ?_
  refine RL.bin rfl rfl rfl rfl rfl rfl ?_
  refine RL.assign rfl rfl rfl rfl ?_
  refine RL.nil ?_
  refine NQ.seq ?_
  refine CW.only (.cons (k := 1) rfl (.cons (k := 3) rfl (.cons (k := 8) rfl (.cons (k := 84) rfl .nil)))) ?_
  refine CW.condF rfl ((by rw [hk]; rfl)) ?_
  refine CW.seq ?_
  refine CW.region (ef := []) (bk := []) ?_
  refine RL.bin rfl rfl rfl rfl rfl rfl ?_
  refine RL.assign rfl rfl rfl rfl ?_
  refine RL.nil ?_
  refine NQ.seq ?_
  refine CW.condF rfl ((by rw [hk]; rfl)) ?_
  refine CW.seq ?_
  refine CW.region (ef := []) (bk := []) ?_
  refine RL.bin rfl rfl rfl rfl rfl rfl ?_
  refine RL.assign rfl rfl rfl rfl ?_
  refine RL.nil ?_
  refine NQ.seq ?_
  refine CW.condF rfl ((by rw [hk]; rfl)) ?_
  refine CW.seq ?_
  refine CW.region (ef := []) (bk := []) ?_
  refine RL.bin rfl rfl rfl rfl rfl rfl ?_
  refine RL.assign rfl rfl rfl rfl ?_
  refine RL.nil ?_
  refine NQ.seq ?_
  refine CW.only (.cons (k := 1) rfl (.cons (k := 3) rfl (.cons (k := 8) rfl (.cons (k := 100) rfl .nil)))) ?_
  refine CW.condT rfl ((by rw [hk]; rfl)) ?_
  refine CW.seq ?_
  refine CW.regionD (.cons 0 (.cons 1 (.cons 3 (.cons 4 (.cons 7 (.cons 8 (.cons 11 (.cons 12 (.cons 13 (.fork [2, 5] (fun k => (bif Nat.beq k 2 then (Sq.of [5, 6, 9, 10, 14, 15, 16]) else (Sq.of [2, 6, 9, 10, 14, 15, 16]))))))))))))) [2, 5, 6, 9, 10, 14, 15] [6, 10, 15] [0, 1, 3, 4, 7, 8, 11, 12, 13, 16] mixed (by kernel_rfl) ?_
  refine RL.fieldAddr fa_68_12 rfl rfl rfl rfl ?_
  refine RL.loadTq Tryz.isAgg5 rfl rfl rfl rfl ?_
  refine RL.fieldAddr fa_68_9 rfl rfl rfl rfl ?_
  refine RL.loadNT (vs := [_, _, _]) Tryz.isAgg65 Tryz.sizeOf65 rfl rfl rfl rfl (by first | (apply Rds.cel; (solve | (repeat (first | exact List.Mem.head _ | apply List.Mem.tail))); exact at_spec ⟨rfl, rfl, rfl, trivial⟩) | (apply Rds.celI; (solve | (repeat (first | exact List.Mem.head _ | apply List.Mem.tail))); exact at_spec ⟨rfl, rfl, rfl, trivial⟩) | assumption | (apply RdsI.rds; assumption)) ?_
  refine RL.fieldAddr fa_68_14 rfl rfl rfl rfl ?_
  refine RL.loadTq Tryz.isAgg45 rfl rfl rfl rfl ?_
  refine RL.fieldAddr fa_68_15 rfl rfl rfl rfl ?_
  refine RL.loadTq Tryz.isAgg24 rfl rfl rfl rfl ?_
  refine RL.conv Tryz.runUnderlying24 Tryz.runUnderlying25 rfl rfl rfl rfl ?_
  refine RL.fork ⟨?_, ?_, trivial⟩
  ·
    refine RL.buildOwn [_] Tryz.runUnderlying26 Tryz.sizeOf5 Tryz.zeroValue5 rfl rfl (by decide) (by decide) rfl (by decide) rfl rfl rfl rfl rfl rfl ?_
    intro b3
    refine RL.callq (rplace r.p0 r.p1 r.p2) Tryz.call109 rfl rfl rfl rfl rfl (.inl rfl) ?_
    rintro _ _ _ ⟨ob1, cap1, rfl, rfl, rfl, ho1⟩
    refine RL.appendq el_26 rfl rfl rfl rfl rfl rfl rfl ?_ (hs := (by first | (exact Src.cel (by (solve | (repeat (first | exact List.Mem.head _ | apply List.Mem.tail)))) (by first | rfl | assumption | (simp only [List.length_map]; assumption) | (simp only [List.length_map, List.length_replicate]; done) | (simp; done))) | (exact Src.ownS (by (solve | (repeat (first | exact List.Mem.head _ | apply List.Mem.tail))))) | (exact Src.own (by (solve | (repeat (first | exact List.Mem.head _ | apply List.Mem.tail))))) | (exact Src.sls (by (solve | (repeat (first | exact List.Mem.head _ | apply List.Mem.tail))))) | (exact Src.celI (by (solve | (repeat (first | exact List.Mem.head _ | apply List.Mem.tail)))) (by first | rfl | assumption | (simp only [List.length_map]; assumption) | (simp only [List.length_map, List.length_replicate]; done) | (simp; done)))))
    intro ob2 cap2 ho2
    refine RL.callq (rsputfix8 r.bound) Tryz.call107 rfl rfl rfl rfl rfl (.inl rfl) ?_
    rintro _ _ _ ⟨ob3, cap3, rfl, rfl, rfl, ho3⟩
    refine RL.appendq el_26 rfl rfl rfl rfl rfl rfl rfl ?_ (hs := (by first | (exact Src.cel (by (solve | (repeat (first | exact List.Mem.head _ | apply List.Mem.tail)))) (by first | rfl | assumption | (simp only [List.length_map]; assumption) | (simp only [List.length_map, List.length_replicate]; done) | (simp; done))) | (exact Src.ownS (by (solve | (repeat (first | exact List.Mem.head _ | apply List.Mem.tail))))) | (exact Src.own (by (solve | (repeat (first | exact List.Mem.head _ | apply List.Mem.tail))))) | (exact Src.sls (by (solve | (repeat (first | exact List.Mem.head _ | apply List.Mem.tail))))) | (exact Src.celI (by (solve | (repeat (first | exact List.Mem.head _ | apply List.Mem.tail)))) (by first | rfl | assumption | (simp only [List.length_map]; assumption) | (simp only [List.length_map, List.length_replicate]; done) | (simp; done)))))
    intro ob4 cap4 ho4
    refine RL.callq (rnum r.flags 4 (by decide)) Tryz.call108 rfl rfl rfl rfl rfl (.inl rfl) ?_
    rintro _ _ _ ⟨ob5, cap5, rfl, rfl, rfl, ho5⟩
    refine RL.appendq el_26 rfl rfl rfl rfl rfl rfl rfl ?_ (hs := (by first | (exact Src.cel (by (solve | (repeat (first | exact List.Mem.head _ | apply List.Mem.tail)))) (by first | rfl | assumption | (simp only [List.length_map]; assumption) | (simp only [List.length_map, List.length_replicate]; done) | (simp; done))) | (exact Src.ownS (by (solve | (repeat (first | exact List.Mem.head _ | apply List.Mem.tail))))) | (exact Src.own (by (solve | (repeat (first | exact List.Mem.head _ | apply List.Mem.tail))))) | (exact Src.sls (by (solve | (repeat (first | exact List.Mem.head _ | apply List.Mem.tail))))) | (exact Src.celI (by (solve | (repeat (first | exact List.Mem.head _ | apply List.Mem.tail)))) (by first | rfl | assumption | (simp only [List.length_map]; assumption) | (simp only [List.length_map, List.length_replicate]; done) | (simp; done)))))
    intro ob6 cap6 ho6
    refine RL.assign rfl rfl rfl rfl ?_
    refine RL.nil ?_
    refine NQ.seq ?_
    refine CW.only (.cons (k := 2) rfl .nil) ?_
    refine CW.ret ?_
    refine RQ.block ?_
    exact RQ.ownB (l := bodyR r) rfl rfl (by first | exact .keep (Split.none _) | exact .drop (.keep (Split.none _)) | exact .drop (.drop (.keep (Split.none _)))) (by unfold bodyR; simp [hk, beN_length, be4_length, be8'_length, keyL]) (by unfold bodyR; simp [hk, keyL]) (by first | assumption | (right; rfl))
  ·
    refine RL.callq (rplace r.p0 r.p1 r.p2) Tryz.call109 rfl rfl rfl rfl rfl (.inl rfl) ?_
    rintro _ _ _ ⟨ob1, cap1, rfl, rfl, rfl, ho1⟩
    refine RL.buildOwn [_] Tryz.runUnderlying26 Tryz.sizeOf5 Tryz.zeroValue5 rfl rfl (by decide) (by decide) rfl (by decide) rfl rfl rfl rfl rfl rfl ?_
    intro b3
    refine RL.appendq el_26 rfl rfl rfl rfl rfl rfl rfl ?_ (hs := (by first | (exact Src.cel (by (solve | (repeat (first | exact List.Mem.head _ | apply List.Mem.tail)))) (by first | rfl | assumption | (simp only [List.length_map]; assumption) | (simp only [List.length_map, List.length_replicate]; done) | (simp; done))) | (exact Src.ownS (by (solve | (repeat (first | exact List.Mem.head _ | apply List.Mem.tail))))) | (exact Src.own (by (solve | (repeat (first | exact List.Mem.head _ | apply List.Mem.tail))))) | (exact Src.sls (by (solve | (repeat (first | exact List.Mem.head _ | apply List.Mem.tail))))) | (exact Src.celI (by (solve | (repeat (first | exact List.Mem.head _ | apply List.Mem.tail)))) (by first | rfl | assumption | (simp only [List.length_map]; assumption) | (simp only [List.length_map, List.length_replicate]; done) | (simp; done)))))
    intro ob2 cap2 ho2
    refine RL.callq (rsputfix8 r.bound) Tryz.call107 rfl rfl rfl rfl rfl (.inl rfl) ?_
    rintro _ _ _ ⟨ob3, cap3, rfl, rfl, rfl, ho3⟩
    refine RL.appendq el_26 rfl rfl rfl rfl rfl rfl rfl ?_ (hs := (by first | (exact Src.cel (by (solve | (repeat (first | exact List.Mem.head _ | apply List.Mem.tail)))) (by first | rfl | assumption | (simp only [List.length_map]; assumption) | (simp only [List.length_map, List.length_replicate]; done) | (simp; done))) | (exact Src.ownS (by (solve | (repeat (first | exact List.Mem.head _ | apply List.Mem.tail))))) | (exact Src.own (by (solve | (repeat (first | exact List.Mem.head _ | apply List.Mem.tail))))) | (exact Src.sls (by (solve | (repeat (first | exact List.Mem.head _ | apply List.Mem.tail))))) | (exact Src.celI (by (solve | (repeat (first | exact List.Mem.head _ | apply List.Mem.tail)))) (by first | rfl | assumption | (simp only [List.length_map]; assumption) | (simp only [List.length_map, List.length_replicate]; done) | (simp; done)))))
    intro ob4 cap4 ho4
    refine RL.callq (rnum r.flags 4 (by decide)) Tryz.call108 rfl rfl rfl rfl rfl (.inl rfl) ?_
    rintro _ _ _ ⟨ob5, cap5, rfl, rfl, rfl, ho5⟩
    refine RL.appendq el_26 rfl rfl rfl rfl rfl rfl rfl ?_ (hs := (by first | (exact Src.cel (by (solve | (repeat (first | exact List.Mem.head _ | apply List.Mem.tail)))) (by first | rfl | assumption | (simp only [List.length_map]; assumption) | (simp only [List.length_map, List.length_replicate]; done) | (simp; done))) | (exact Src.ownS (by (solve | (repeat (first | exact List.Mem.head _ | apply List.Mem.tail))))) | (exact Src.own (by (solve | (repeat (first | exact List.Mem.head _ | apply List.Mem.tail))))) | (exact Src.sls (by (solve | (repeat (first | exact List.Mem.head _ | apply List.Mem.tail))))) | (exact Src.celI (by (solve | (repeat (first | exact List.Mem.head _ | apply List.Mem.tail)))) (by first | rfl | assumption | (simp only [List.length_map]; assumption) | (simp only [List.length_map, List.length_replicate]; done) | (simp; done)))))
    intro ob6 cap6 ho6
    refine RL.assign rfl rfl rfl rfl ?_
    refine RL.nil ?_
    refine NQ.seq ?_
    refine CW.only (.cons (k := 2) rfl .nil) ?_
    refine CW.ret ?_
    refine RQ.block ?_
    exact RQ.ownB (l := bodyR r) rfl rfl (by first | exact .keep (Split.none _) | exact .drop (.keep (Split.none _)) | exact .drop (.drop (.keep (Split.none _)))) (by unfold bodyR; simp [hk, beN_length, be4_length, be8'_length, keyL]) (by unfold bodyR; simp [hk, keyL]) (by first | assumption | (right; rfl))
set_option maxHeartbeats 4000000 in
theorem rbody_14 (r : Rdg) (hk : r.kind = 14) (hr : r.Ok) : Spc Tryz.prog 87 #[.agg r.cells.toArray] [] [] (OwnB (bodyR r)) := by
  refine Spc.enter Tryz.func87 rfl rfl rfl (fun w0 hw0 => ?_)
  refine CW.seq ?_
  refine CW.region (ef := [0]) (bk := []) ?_
  refine RL.box rfl rfl rfl rfl rfl rfl ?_
  intro b1
  refine RL.assign rfl rfl rfl rfl ?_
  refine RL.nil ?_
  refine NQ.seq ?_
  refine CW.seq ?_
  refine CW.freezeAll rfl ?_
  simp only [List.cons_append, List.nil_append]
  refine CW.region (ef := [0]) (bk := []) ?_
  refine RL.buildOwn [] Tryz.runUnderlying26 Tryz.sizeOf5 Tryz.zeroValue5 rfl rfl (by decide) (by decide) rfl (by decide) rfl rfl rfl rfl rfl rfl ?_
  intro b2
  refine RL.assign rfl rfl rfl rfl ?_
  refine RL.nil ?_
  refine NQ.seq ?_
  refine CW.seq ?_
  refine CW.region (ef := []) (bk := []) ?_
  refine RL.fieldAddr fa_68_0 rfl rfl rfl rfl ?_
  refine RL.loadq Tryz.isAgg3 rfl rfl rfl rfl ?_
  refine RL.nil ?_
  refine NQ.seq ?_
  refine CW.block ?_
  refine CW.seq ?_
  refine CW.region (ef := []) (bk := []) ?_
  refine RL.bin rfl rfl rfl rfl rfl rfl ?_
  refine RL.assign rfl rfl rfl rfl ?_
  refine RL.nil ?_
  refine NQ.seq ?_
  refine CW.condF rfl ((by rw [hk]; rfl)) ?_
  refine CW.seq ?_
  refine CW.region (ef := []) (bk := []) ?_
  refine RL.bin rfl rfl rfl rfl rfl rfl ?_
  refine RL.assign rfl rfl rfl rfl ?_
  refine RL.nil ?_
  refine NQ.seq ?_
  refine CW.only (.cons (k := 1) rfl (.cons (k := 3) rfl (.cons (k := 8) rfl (.cons (k := 35) rfl .nil)))) ?_
  refine CW.condF rfl ((by rw [hk]; rfl)) ?_
  refine CW.seq ?_
  refine CW.region (ef := []) (bk := []) ?_
  refine RL.bin rfl rfl rfl rfl rfl rfl ?_
  refine RL.assign rfl rfl rfl rfl ?_
  refine RL.nil ?_
  refine NQ.seq ?_
  refine CW.condF rfl ((by rw [hk]; rfl)) ?_
  refine CW.seq ?_
  refine CW.region (ef := []) (bk := []) ?_
  refine RL.bin rfl rfl rfl rfl rfl rfl ?_
  refine RL.assign rfl rfl rfl rfl ?_
  refine RL.nil ?_
  refine NQ.seq ?_
  refine CW.condF rfl ((by rw [hk]; rfl)) ?_
  refine CW.seq ?_
  refine CW.region (ef := []) (bk := []) ?_
  refine RL.bin rfl rfl rfl rfl rfl rfl ?_
  refine RL.assign rfl rfl rfl rfl ?_
  refine RL.nil ?_
  refine NQ.seq ?_
  refine CW.only (.cons (k := 1) rfl (.cons (k := 3) rfl (.cons (k := 8) rfl (.cons (k := 56) rfl .nil)))) ?_
  refine CW.condF rfl ((by rw [hk]; rfl)) ?_
  refine CW.seq ?_
  refine CW.region (ef := []) (bk := []) ?_
  refine RL.bin rfl rfl rfl rfl rfl rfl ?_
  refine RL.assign rfl rfl rfl rfl ?_
  refine RL.nil ?_
  refine NQ.seq ?_
  refine CW.condF rfl ((by rw [hk]; rfl)) ?_
  refine CW.seq ?_
  refine CW.region (ef := []) (bk := []) ?_
  refine RL.bin rfl rfl rfl rfl rfl rfl ?_
  refine RL.assign rfl rfl rfl rfl ?_
  refine RL.nil ?_
  refine NQ.seq ?_
  refine CW.condF rfl ((by rw [hk]; rfl)) ?_
  refine CW.seq ?_
  refine CW.region (ef := []) (bk := []) ?_
  refine RL.bin rfl rfl rfl rfl rfl rfl ?_
  refine RL.assign rfl rfl rfl rfl ?_
  refine RL.nil ?_
  refine NQ.seq ?_
  refine CW.only (.cons (k := 1) rfl (.cons (k := 3) rfl (.cons (k := 8) rfl (.cons (k := 84) rfl .nil)))) ?_
  refine CW.condF rfl ((by rw [hk]; rfl)) ?_
  refine CW.seq ?_
  refine CW.region (ef := []) (bk := []) ?_
  refine RL.bin rfl rfl rfl rfl rfl rfl ?_
  refine RL.assign rfl rfl rfl rfl ?_
  refine RL.nil ?_
  refine NQ.seq ?_
  refine CW.condF rfl ((by rw [hk]; rfl)) ?_
  refine CW.seq ?_
  refine CW.region (ef := []) (bk := []) ?_
  refine RL.bin rfl rfl rfl rfl rfl rfl ?_
  refine RL.assign rfl rfl rfl rfl ?_
  refine RL.nil ?_
  refine NQ.seq ?_
  refine CW.condF rfl ((by rw [hk]; rfl)) ?_
  refine CW.seq ?_
  refine CW.region (ef := []) (bk := []) ?_
  refine RL.bin rfl rfl rfl rfl rfl rfl ?_
  refine RL.assign rfl rfl rfl rfl ?_
  refine RL.nil ?_
  refine NQ.seq ?_
  refine CW.only (.cons (k := 1) rfl (.cons (k := 3) rfl (.cons (k := 8) rfl (.cons (k := 100) rfl .nil)))) ?_
  refine CW.condF rfl ((by rw [hk]; rfl)) ?_
  refine CW.seq ?_
  refine CW.region (ef := []) (bk := []) ?_
  refine RL.bin rfl rfl rfl rfl rfl rfl ?_
  refine RL.assign rfl rfl rfl rfl ?_
  refine RL.nil ?_
  refine NQ.seq ?_
  refine CW.condT rfl ((by rw [hk]; rfl)) ?_
  refine CW.seq ?_
  refine CW.regionD (.cons 0 (.cons 1 (.cons 2 (.cons 3 (.cons 5 (.cons 6 (.cons 7 (.cons 10 (.cons 11 (.cons 14 (.cons 15 (.cons 16 (.fork [4, 8] (fun k => (bif Nat.beq k 4 then (Sq.of [8, 9, 12, 13, 17, 18, 19]) else (Sq.of [4, 9, 12, 13, 17, 18, 19])))))))))))))))) [4, 8, 9, 12, 13, 17, 18] [9, 13, 18] [0, 1, 2, 3, 5, 6, 7, 10, 11, 14, 15, 16, 19] mixed (by kernel_rfl) ?_
  refine RL.fieldAddr fa_68_16 rfl rfl rfl rfl ?_
  refine RL.loadTq Tryz.isAgg5 rfl rfl rfl rfl ?_
  refine RL.fieldAddr fa_68_17 rfl rfl rfl rfl ?_
  refine RL.loadTq Tryz.isAgg5 rfl rfl rfl rfl ?_
  refine RL.fieldAddr fa_68_18 rfl rfl rfl rfl ?_
  refine RL.loadTq Tryz.isAgg66 rfl rfl rfl rfl ?_
  refine RL.conv Tryz.runUnderlying66 Tryz.runUnderlying25 rfl rfl rfl rfl ?_
  refine RL.fieldAddr fa_68_19 rfl rfl rfl rfl ?_
  refine RL.loadTq Tryz.isAgg25 rfl rfl rfl rfl ?_
  refine RL.fieldAddr fa_68_13 rfl rfl rfl rfl ?_
  refine RL.loadTq Tryz.isAgg24 rfl rfl rfl rfl ?_
  refine RL.conv Tryz.runUnderlying24 Tryz.runUnderlying25 rfl rfl rfl rfl ?_
  refine RL.fork ⟨?_, ?_, trivial⟩
  ·
    refine RL.buildOwn [_, _] Tryz.runUnderlying26 Tryz.sizeOf5 Tryz.zeroValue5 rfl rfl (by decide) (by decide) rfl (by decide) rfl rfl rfl rfl rfl rfl ?_
    intro b3
    refine RL.callq (rnum r.fails 2 (by decide)) Tryz.call108 rfl rfl rfl rfl rfl (.inl rfl) ?_
    rintro _ _ _ ⟨ob1, cap1, rfl, rfl, rfl, ho1⟩
    refine RL.appendq el_26 rfl rfl rfl rfl rfl rfl rfl ?_ (hs := (by first | (exact Src.cel (by (solve | (repeat (first | exact List.Mem.head _ | apply List.Mem.tail)))) (by first | rfl | assumption | (simp only [List.length_map]; assumption) | (simp only [List.length_map, List.length_replicate]; done) | (simp; done))) | (exact Src.ownS (by (solve | (repeat (first | exact List.Mem.head _ | apply List.Mem.tail))))) | (exact Src.own (by (solve | (repeat (first | exact List.Mem.head _ | apply List.Mem.tail))))) | (exact Src.sls (by (solve | (repeat (first | exact List.Mem.head _ | apply List.Mem.tail))))) | (exact Src.celI (by (solve | (repeat (first | exact List.Mem.head _ | apply List.Mem.tail)))) (by first | rfl | assumption | (simp only [List.length_map]; assumption) | (simp only [List.length_map, List.length_replicate]; done) | (simp; done)))))
    intro ob2 cap2 ho2
    refine RL.callq (rnumT r.counter hr.counter 8 (by decide)) Tryz.call108 rfl rfl rfl rfl rfl (.inl rfl) ?_
    rintro _ _ _ ⟨ob3, cap3, rfl, rfl, rfl, ho3⟩
    refine RL.appendq el_26 rfl rfl rfl rfl rfl rfl rfl ?_ (hs := (by first | (exact Src.cel (by (solve | (repeat (first | exact List.Mem.head _ | apply List.Mem.tail)))) (by first | rfl | assumption | (simp only [List.length_map]; assumption) | (simp only [List.length_map, List.length_replicate]; done) | (simp; done))) | (exact Src.ownS (by (solve | (repeat (first | exact List.Mem.head _ | apply List.Mem.tail))))) | (exact Src.own (by (solve | (repeat (first | exact List.Mem.head _ | apply List.Mem.tail))))) | (exact Src.sls (by (solve | (repeat (first | exact List.Mem.head _ | apply List.Mem.tail))))) | (exact Src.celI (by (solve | (repeat (first | exact List.Mem.head _ | apply List.Mem.tail)))) (by first | rfl | assumption | (simp only [List.length_map]; assumption) | (simp only [List.length_map, List.length_replicate]; done) | (simp; done)))))
    intro ob4 cap4 ho4
    refine RL.callq (rnum r.epoch 4 (by decide)) Tryz.call108 rfl rfl rfl rfl rfl (.inl rfl) ?_
    rintro _ _ _ ⟨ob5, cap5, rfl, rfl, rfl, ho5⟩
    refine RL.appendq el_26 rfl rfl rfl rfl rfl rfl rfl ?_ (hs := (by first | (exact Src.cel (by (solve | (repeat (first | exact List.Mem.head _ | apply List.Mem.tail)))) (by first | rfl | assumption | (simp only [List.length_map]; assumption) | (simp only [List.length_map, List.length_replicate]; done) | (simp; done))) | (exact Src.ownS (by (solve | (repeat (first | exact List.Mem.head _ | apply List.Mem.tail))))) | (exact Src.own (by (solve | (repeat (first | exact List.Mem.head _ | apply List.Mem.tail))))) | (exact Src.sls (by (solve | (repeat (first | exact List.Mem.head _ | apply List.Mem.tail))))) | (exact Src.celI (by (solve | (repeat (first | exact List.Mem.head _ | apply List.Mem.tail)))) (by first | rfl | assumption | (simp only [List.length_map]; assumption) | (simp only [List.length_map, List.length_replicate]; done) | (simp; done)))))
    intro ob6 cap6 ho6
    refine RL.assign rfl rfl rfl rfl ?_
    refine RL.nil ?_
    refine NQ.seq ?_
    refine CW.only (.cons (k := 2) rfl .nil) ?_
    refine CW.ret ?_
    refine RQ.block ?_
    exact RQ.ownB (l := bodyR r) rfl rfl (by first | exact .keep (Split.none _) | exact .drop (.keep (Split.none _)) | exact .drop (.drop (.keep (Split.none _)))) (by unfold bodyR; simp [hk, beN_length, be4_length, be8'_length, keyL]) (by unfold bodyR; simp [hk, keyL]) (by first | assumption | (right; rfl))
  ·
    refine RL.callq (rnum r.fails 2 (by decide)) Tryz.call108 rfl rfl rfl rfl rfl (.inl rfl) ?_
    rintro _ _ _ ⟨ob1, cap1, rfl, rfl, rfl, ho1⟩
    refine RL.buildOwn [_, _] Tryz.runUnderlying26 Tryz.sizeOf5 Tryz.zeroValue5 rfl rfl (by decide) (by decide) rfl (by decide) rfl rfl rfl rfl rfl rfl ?_
    intro b3
    refine RL.appendq el_26 rfl rfl rfl rfl rfl rfl rfl ?_ (hs := (by first | (exact Src.cel (by (solve | (repeat (first | exact List.Mem.head _ | apply List.Mem.tail)))) (by first | rfl | assumption | (simp only [List.length_map]; assumption) | (simp only [List.length_map, List.length_replicate]; done) | (simp; done))) | (exact Src.ownS (by (solve | (repeat (first | exact List.Mem.head _ | apply List.Mem.tail))))) | (exact Src.own (by (solve | (repeat (first | exact List.Mem.head _ | apply List.Mem.tail))))) | (exact Src.sls (by (solve | (repeat (first | exact List.Mem.head _ | apply List.Mem.tail))))) | (exact Src.celI (by (solve | (repeat (first | exact List.Mem.head _ | apply List.Mem.tail)))) (by first | rfl | assumption | (simp only [List.length_map]; assumption) | (simp only [List.length_map, List.length_replicate]; done) | (simp; done)))))
    intro ob2 cap2 ho2
    refine RL.callq (rnumT r.counter hr.counter 8 (by decide)) Tryz.call108 rfl rfl rfl rfl rfl (.inl rfl) ?_
    rintro _ _ _ ⟨ob3, cap3, rfl, rfl, rfl, ho3⟩
    refine RL.appendq el_26 rfl rfl rfl rfl rfl rfl rfl ?_ (hs := (by first | (exact Src.cel (by (solve | (repeat (first | exact List.Mem.head _ | apply List.Mem.tail)))) (by first | rfl | assumption | (simp only [List.length_map]; assumption) | (simp only [List.length_map, List.length_replicate]; done) | (simp; done))) | (exact Src.ownS (by (solve | (repeat (first | exact List.Mem.head _ | apply List.Mem.tail))))) | (exact Src.own (by (solve | (repeat (first | exact List.Mem.head _ | apply List.Mem.tail))))) | (exact Src.sls (by (solve | (repeat (first | exact List.Mem.head _ | apply List.Mem.tail))))) | (exact Src.celI (by (solve | (repeat (first | exact List.Mem.head _ | apply List.Mem.tail)))) (by first | rfl | assumption | (simp only [List.length_map]; assumption) | (simp only [List.length_map, List.length_replicate]; done) | (simp; done)))))
    intro ob4 cap4 ho4
    refine RL.callq (rnum r.epoch 4 (by decide)) Tryz.call108 rfl rfl rfl rfl rfl (.inl rfl) ?_
    rintro _ _ _ ⟨ob5, cap5, rfl, rfl, rfl, ho5⟩
    refine RL.appendq el_26 rfl rfl rfl rfl rfl rfl rfl ?_ (hs := (by first | (exact Src.cel (by (solve | (repeat (first | exact List.Mem.head _ | apply List.Mem.tail)))) (by first | rfl | assumption | (simp only [List.length_map]; assumption) | (simp only [List.length_map, List.length_replicate]; done) | (simp; done))) | (exact Src.ownS (by (solve | (repeat (first | exact List.Mem.head _ | apply List.Mem.tail))))) | (exact Src.own (by (solve | (repeat (first | exact List.Mem.head _ | apply List.Mem.tail))))) | (exact Src.sls (by (solve | (repeat (first | exact List.Mem.head _ | apply List.Mem.tail))))) | (exact Src.celI (by (solve | (repeat (first | exact List.Mem.head _ | apply List.Mem.tail)))) (by first | rfl | assumption | (simp only [List.length_map]; assumption) | (simp only [List.length_map, List.length_replicate]; done) | (simp; done)))))
    intro ob6 cap6 ho6
    refine RL.assign rfl rfl rfl rfl ?_
    refine RL.nil ?_
    refine NQ.seq ?_
    refine CW.only (.cons (k := 2) rfl .nil) ?_
    refine CW.ret ?_
    refine RQ.block ?_
    exact RQ.ownB (l := bodyR r) rfl rfl (by first | exact .keep (Split.none _) | exact .drop (.keep (Split.none _)) | exact .drop (.drop (.keep (Split.none _)))) (by unfold bodyR; simp [hk, beN_length, be4_length, be8'_length, keyL]) (by unfold bodyR; simp [hk, keyL]) (by first | assumption | (right; rfl))
theorem rbody_none (r : Rdg) (hk : r.kind ≠ 1 ∧ r.kind ≠ 2 ∧ r.kind ≠ 3 ∧ r.kind ≠ 4 ∧ r.kind ≠ 5 ∧ r.kind ≠ 6 ∧ r.kind ≠ 7 ∧ r.kind ≠ 8 ∧ r.kind ≠ 10 ∧ r.kind ≠ 12 ∧ r.kind ≠ 13 ∧ r.kind ≠ 14) : Spc Tryz.prog 87 #[.agg r.cells.toArray] [] [] (OwnB (bodyR r)) := by
  refine Spc.enter Tryz.func87 rfl rfl rfl (fun w0 hw0 => ?_)
  refine CW.seq ?_
  refine CW.region (ef := [0]) (bk := []) ?_
  refine RL.box rfl rfl rfl rfl rfl rfl ?_
  intro b1
  refine RL.assign rfl rfl rfl rfl ?_
  refine RL.nil ?_
  refine NQ.seq ?_
  refine CW.seq ?_
  refine CW.region (ef := [0]) (bk := []) ?_
  refine RL.buildOwn [] Tryz.runUnderlying26 Tryz.sizeOf5 Tryz.zeroValue5 rfl rfl (by decide) (by decide) rfl (by decide) rfl rfl rfl rfl rfl rfl ?_
  intro b2
  refine RL.assign rfl rfl rfl rfl ?_
  refine RL.nil ?_
  refine NQ.seq ?_
  refine CW.seq ?_
  refine CW.region (ef := []) (bk := []) ?_
  refine RL.fieldAddr fa_68_0 rfl rfl rfl rfl ?_
  refine RL.loadq Tryz.isAgg3 rfl rfl rfl rfl ?_
  refine RL.nil ?_
  refine NQ.seq ?_
  refine CW.block ?_
  refine CW.seq ?_
  refine CW.region (ef := []) (bk := []) ?_
  refine RL.bin rfl rfl rfl rfl rfl rfl ?_
  refine RL.assign rfl rfl rfl rfl ?_
  refine RL.nil ?_
  refine NQ.seq ?_
  refine CW.condF rfl ((by simp [hk])) ?_
  refine CW.seq ?_
  refine CW.region (ef := []) (bk := []) ?_
  refine RL.bin rfl rfl rfl rfl rfl rfl ?_
  refine RL.assign rfl rfl rfl rfl ?_
  refine RL.nil ?_
  refine NQ.seq ?_
  refine CW.only (.cons (k := 1) rfl (.cons (k := 3) rfl (.cons (k := 8) rfl (.cons (k := 35) rfl .nil)))) ?_
  refine CW.condF rfl ((by simp [hk])) ?_
  refine CW.seq ?_
  refine CW.region (ef := []) (bk := []) ?_
  refine RL.bin rfl rfl rfl rfl rfl rfl ?_
  refine RL.assign rfl rfl rfl rfl ?_
  refine RL.nil ?_
  refine NQ.seq ?_
  refine CW.condF rfl ((by simp [hk])) ?_
  refine CW.seq ?_
  refine CW.region (ef := []) (bk := []) ?_
  refine RL.bin rfl rfl rfl rfl rfl rfl ?_
  refine RL.assign rfl rfl rfl rfl ?_
  refine RL.nil ?_
  refine NQ.seq ?_
  refine CW.condF rfl ((by simp [hk])) ?_
  refine CW.seq ?_
  refine CW.region (ef := []) (bk := []) ?_
  refine RL.bin rfl rfl rfl rfl rfl rfl ?_
  refine RL.assign rfl rfl rfl rfl ?_
  refine RL.nil ?_
  refine NQ.seq ?_
  refine CW.only (.cons (k := 1) rfl (.cons (k := 3) rfl (.cons (k := 8) rfl (.cons (k := 56) rfl .nil)))) ?_
  refine CW.condF rfl ((by simp [hk])) ?_
  refine CW.seq ?_
  refine CW.region (ef := []) (bk := []) ?_
  refine RL.bin rfl rfl rfl rfl rfl rfl ?_
  refine RL.assign rfl rfl rfl rfl ?_
  refine RL.nil ?_
  refine NQ.seq ?_
  refine CW.condF rfl ((by simp [hk])) ?_
  refine CW.seq ?_
  refine CW.region (ef := []) (bk := []) ?_
  refine RL.bin rfl rfl rfl rfl rfl rfl ?_
  refine RL.assign rfl rfl rfl rfl ?_
  refine RL.nil ?_
  refine NQ.seq ?_
  refine CW.condF rfl ((by simp [hk])) ?_
  refine CW.seq ?_
  refine CW.region (ef := []) (bk := []) ?_
  refine RL.bin rfl rfl rfl rfl rfl rfl ?_
  refine RL.assign rfl rfl rfl rfl ?_
  refine RL.nil ?_
  refine NQ.seq ?_
  refine CW.only (.cons (k := 1) rfl (.cons (k := 3) rfl (.cons (k := 8) rfl (.cons (k := 84) rfl .nil)))) ?_
  refine CW.condF rfl ((by simp [hk])) ?_
  refine CW.seq ?_
  refine CW.region (ef := []) (bk := []) ?_
  refine RL.bin rfl rfl rfl rfl rfl rfl ?_
  refine RL.assign rfl rfl rfl rfl ?_
  refine RL.nil ?_
  refine NQ.seq ?_
  refine CW.condF rfl ((by simp [hk])) ?_
  refine CW.seq ?_
  refine CW.region (ef := []) (bk := []) ?_
  refine RL.bin rfl rfl rfl rfl rfl rfl ?_
  refine RL.assign rfl rfl rfl rfl ?_
  refine RL.nil ?_
  refine NQ.seq ?_
  refine CW.condF rfl ((by simp [hk])) ?_
  refine CW.seq ?_
  refine CW.region (ef := []) (bk := []) ?_
  refine RL.bin rfl rfl rfl rfl rfl rfl ?_
  refine RL.assign rfl rfl rfl rfl ?_
  refine RL.nil ?_
  refine NQ.seq ?_
  refine CW.only (.cons (k := 1) rfl (.cons (k := 3) rfl (.cons (k := 8) rfl (.cons (k := 100) rfl .nil)))) ?_
  refine CW.condF rfl ((by simp [hk])) ?_
  refine CW.seq ?_
  refine CW.region (ef := []) (bk := []) ?_
  refine RL.bin rfl rfl rfl rfl rfl rfl ?_
  refine RL.assign rfl rfl rfl rfl ?_
  refine RL.nil ?_
  refine NQ.seq ?_
  refine CW.condF rfl ((by simp [hk])) ?_
  refine CW.seq ?_
  refine CW.region (ef := []) (bk := []) ?_
  refine RL.move rfl rfl rfl rfl ?_
  refine RL.assign rfl rfl rfl rfl ?_
  refine RL.nil ?_
  refine NQ.seq ?_
  refine CW.only (.cons (k := 2) rfl .nil) ?_
  refine CW.ret ?_
  refine RQ.block ?_
  exact RQ.ownB (l := bodyR r) rfl rfl (.keep (Split.none _)) (by unfold bodyR; simp [hk]) (by unfold bodyR; simp [hk]) (by first | assumption | (left; rfl))
end Go.Proofs.YtbdnebedmdoehaaGreat

namespace Go.Proofs.YtbdnebedmdoehaaGreat
open Go.PK
attribute [local irreducible] be8' be4 beN

def sel3 (a b c : Int) (i : Nat) : Int := if i = 0 then a else if i = 1 then b else c
theorem sel3_take (a b c : Int) {i : Nat} (h : i < 3) : [a, b, c].take (i + 1) = [a, b, c].take i ++ [sel3 a b c i] := by
  match i, h with
  | 0, _ => rfl
  | 1, _ => rfl
  | 2, _ => rfl
theorem sel3_get (a b c : Int) {cs : List Value} {o : Nat} (h0 : cs[o]? = some (.int .i32 a)) (h1 : cs[o + 1]? = some (.int .i32 b)) (h2 : cs[o + 2]? = some (.int .i32 c)) {i : Nat} (h : i < 3) : cs[o + i * 1]? = some (.int .i32 (sel3 a b c i)) := by
  match i, h with
  | 0, _ => exact h0
  | 1, _ => exact h1
  | 2, _ => exact h2
set_option maxHeartbeats 4000000 in
theorem rbody_1 (r : Rdg) (hk : r.kind = 1) (hr : r.Ok) : Spc Tryz.prog 87 #[.agg r.cells.toArray] [] [] (OwnB (bodyR r)) := by
  refine Spc.enter Tryz.func87 rfl rfl rfl (fun w0 hw0 => ?_)
  refine CW.seq ?_
  refine CW.region (ef := [0]) (bk := []) ?_
  refine RL.box rfl rfl rfl rfl rfl rfl ?_
  intro b1
  refine RL.assign rfl rfl rfl rfl ?_
  refine RL.nil ?_
  refine NQ.seq ?_
  refine CW.seq ?_
  refine CW.freezeAll rfl ?_
  simp only [List.cons_append, List.nil_append]
  refine CW.region (ef := [0]) (bk := []) ?_
  refine RL.buildOwn [] Tryz.runUnderlying26 Tryz.sizeOf5 Tryz.zeroValue5 rfl rfl (by decide) (by decide) rfl (by decide) rfl rfl rfl rfl rfl rfl ?_
  intro b2
  refine RL.assign rfl rfl rfl rfl ?_
  refine RL.nil ?_
  refine NQ.seq ?_
  refine CW.seq ?_
  refine CW.region (ef := []) (bk := []) ?_
  refine RL.fieldAddr fa_68_0 rfl rfl rfl rfl ?_
  refine RL.loadq Tryz.isAgg3 rfl rfl rfl rfl ?_
  refine RL.nil ?_
  refine NQ.seq ?_
  refine CW.block ?_
  refine CW.seq ?_
  refine CW.region (ef := []) (bk := []) ?_
  refine RL.bin rfl rfl rfl rfl rfl rfl ?_
  refine RL.assign rfl rfl rfl rfl ?_
  refine RL.nil ?_
  refine NQ.seq ?_
  refine CW.condT rfl ((by rw [hk]; rfl)) ?_
  refine CW.seq ?_
  refine CW.seq ?_
  refine CW.region (ef := []) (bk := []) ?_
  refine RL.assign rfl rfl rfl rfl ?_
  refine RL.nil ?_
  refine NQ.seq ?_
  refine CW.only (.cons (k := 1) rfl (.cons (k := 2) rfl (.cons (k := 3) rfl (.cons (k := 4) rfl .nil)))) ?_
  refine CW.block ?_
  refine CW.loop (γ := Nat × Option Nat × Nat) (fun g => g.1 ≤ 3 ∧ (0 + g.1 = 0 ∨ g.2.1.isSome = true)) (fun g => [(1, .pointer (some ⟨b1, 0, none⟩)), (3, slO g.2.1 (0 + 4 * g.1) g.2.2), (4, .int .i64 (g.1 : Int))]) (fun _ => [cel b1 r.cells 68])
    (fun g => [own g.2.1 g.2.2 5 1 (0 + 4 * g.1) (bytes ([] ++ ([r.g0, r.g1, r.g2].take g.1).flatMap be4))]) (fun g => 3 - g.1) (0, some b2, 0) ⟨by simp, by simp [true]⟩
    (.cons rfl (.cons rfl (.cons rfl .nil))) (fun w h => by simpa using h) ?_
  rintro ⟨i, ob', c'⟩ ⟨hi, ho⟩
  dsimp only at hi ho ⊢
  refine CW.seq ?_
  refine CW.seq ?_
  refine CW.region (ef := []) (bk := []) ?_
  refine RL.move rfl rfl rfl rfl ?_
  refine RL.bin rfl rfl rfl rfl rfl rfl ?_
  refine RL.nil ?_
  refine NQ.seq ?_
  refine CW.cond rfl (fun hlt => ?_) (fun hlt => ?_)
  ·
    refine CW.skip ?_
    refine NQ.seq ?_
    refine CW.seq ?_
    refine CW.block ?_
    refine CW.region (ef := [5, 6]) (bk := [6]) ?_
    refine RL.move rfl rfl rfl rfl ?_
    refine RL.move rfl rfl rfl rfl ?_
    refine RL.fieldAddr fa_68_1 rfl rfl rfl rfl ?_
    have hlt : i < 3 := by simp at hlt; omega
    refine RL.idxAAt (j := i) Tryz.runUnderlying63 Tryz.sizeOf62 rfl rfl rfl rfl rfl rfl hlt ?_
    refine RL.load Tryz.isAgg62 rfl rfl rfl rfl (Rd.getI (by repeat (first | exact List.Mem.head _ | apply List.Mem.tail)) (sel3_get r.g0 r.g1 r.g2 (o := 0 + 1) rfl rfl rfl hlt)) ?_
    refine RL.callq (rput4 (sel3 r.g0 r.g1 r.g2 i)) Tryz.call106 rfl rfl rfl rfl rfl (.inl rfl) ?_
    rintro _ _ _ ⟨ob1, cap1, rfl, rfl, rfl, ho1⟩
    refine RL.appendq el_26 rfl rfl rfl rfl rfl rfl rfl ?_ (hs := (by first | (exact Src.cel (by (solve | (repeat (first | exact List.Mem.head _ | apply List.Mem.tail)))) (by first | rfl | assumption | (simp only [List.length_map]; assumption) | (simp only [List.length_map, List.length_replicate]; done) | (simp; done))) | (exact Src.ownS (by (solve | (repeat (first | exact List.Mem.head _ | apply List.Mem.tail))))) | (exact Src.own (by (solve | (repeat (first | exact List.Mem.head _ | apply List.Mem.tail))))) | (exact Src.sls (by (solve | (repeat (first | exact List.Mem.head _ | apply List.Mem.tail))))) | (exact Src.celI (by (solve | (repeat (first | exact List.Mem.head _ | apply List.Mem.tail)))) (by first | rfl | assumption | (simp only [List.length_map]; assumption) | (simp only [List.length_map, List.length_replicate]; done) | (simp; done)))))
    intro ob2 cap2 ho2
    refine RL.assign rfl rfl rfl rfl ?_
    refine RL.nil ?_
    refine NQ.block ?_
    refine NQ.seq ?_
    refine CW.only (.cons (k := 1) rfl (.cons (k := 3) rfl (.cons (k := 4) rfl .nil))) ?_
    refine CW.region (ef := []) (bk := []) ?_
    refine RL.move rfl rfl rfl rfl ?_
    refine RL.binX rfl rfl rfl rfl rfl rfl (wrapV_i64 (by omega) (by omega)) ?_
    refine RL.assign rfl rfl rfl rfl ?_
    refine RL.nil ?_
    refine NQ.round (g := (i, ob', c')) (i + 1, ob2, cap2) ⟨hlt, ho2.elim (fun h => by omega) .inr⟩ (by show 3 - (i + 1) < 3 - i; omega) (.cons rfl (.cons (by rw [show 0 + 4 * (i + 1) = 0 + 4 * i + 4 by omega]; rfl) (.cons rfl .nil))) (fun w h => ?_)
    rw [own_is (n' := 0 + 4 * (i + 1)) (xs' := bytes ([] ++ ([r.g0, r.g1, r.g2].take (i + 1)).flatMap be4)) (by omega) (by rw [sel3_take _ _ _ hlt, List.flatMap_append]; simp)] at h
    exact h.rea (fun _ h => h) (by repeat (first | exact Rea.nil | (apply Rea.cons; (solve | (repeat (first | exact Del.here | apply Del.there))))))
  ·
    refine CW.exit ?_
    refine XQ.seq ?_
    refine XQ.seq ?_
    refine XQ.hit ?_
    refine NQ.seq ?_
    refine CW.seq ?_
    refine CW.seq ?_
    refine CW.region (ef := []) (bk := []) ?_
    refine RL.assign rfl rfl rfl rfl ?_
    refine RL.nil ?_
    refine NQ.seq ?_
    refine CW.block ?_
    have hi3 : i = 3 := by simp at hlt; omega
    subst hi3
    refine CW.loop (γ := Nat × Option Nat × Nat) (fun g => g.1 ≤ 3 ∧ (12 + g.1 = 0 ∨ g.2.1.isSome = true)) (fun g => [(1, .pointer (some ⟨b1, 0, none⟩)), (3, slO g.2.1 (12 + 4 * g.1) g.2.2), (5, .int .i64 (g.1 : Int))]) (fun _ => [cel b1 r.cells 68])
      (fun g => [own g.2.1 g.2.2 5 1 (12 + 4 * g.1) (bytes ([r.g0, r.g1, r.g2].flatMap be4 ++ ([r.a0, r.a1, r.a2].take g.1).flatMap be4))]) (fun g => 3 - g.1) (0, ob', c') ⟨by simp, by simp [show ob'.isSome = true from ho.elim (fun h => by omega) id]⟩
      (.cons rfl (.cons rfl (.cons rfl .nil))) (fun w h => by simpa [be4_length] using h) ?_
    rintro ⟨i, ob', c'⟩ ⟨hi, ho⟩
    dsimp only at hi ho ⊢
    refine CW.seq ?_
    refine CW.seq ?_
    refine CW.region (ef := []) (bk := []) ?_
    refine RL.move rfl rfl rfl rfl ?_
    refine RL.bin rfl rfl rfl rfl rfl rfl ?_
    refine RL.nil ?_
    refine NQ.seq ?_
    refine CW.cond rfl (fun hlt => ?_) (fun hlt => ?_)
    ·
      refine CW.skip ?_
      refine NQ.seq ?_
      refine CW.seq ?_
      refine CW.block ?_
      refine CW.region (ef := [5, 6]) (bk := [6]) ?_
      refine RL.move rfl rfl rfl rfl ?_
      refine RL.move rfl rfl rfl rfl ?_
      refine RL.fieldAddr fa_68_2 rfl rfl rfl rfl ?_
      have hlt : i < 3 := by simp at hlt; omega
      refine RL.idxAAt (j := i) Tryz.runUnderlying63 Tryz.sizeOf62 rfl rfl rfl rfl rfl rfl hlt ?_
      refine RL.load Tryz.isAgg62 rfl rfl rfl rfl (Rd.getI (by repeat (first | exact List.Mem.head _ | apply List.Mem.tail)) (sel3_get r.a0 r.a1 r.a2 (o := 0 + 4) rfl rfl rfl hlt)) ?_
      refine RL.callq (rput4 (sel3 r.a0 r.a1 r.a2 i)) Tryz.call106 rfl rfl rfl rfl rfl (.inl rfl) ?_
      rintro _ _ _ ⟨ob1, cap1, rfl, rfl, rfl, ho1⟩
      refine RL.appendq el_26 rfl rfl rfl rfl rfl rfl rfl ?_ (hs := (by first | (exact Src.cel (by (solve | (repeat (first | exact List.Mem.head _ | apply List.Mem.tail)))) (by first | rfl | assumption | (simp only [List.length_map]; assumption) | (simp only [List.length_map, List.length_replicate]; done) | (simp; done))) | (exact Src.ownS (by (solve | (repeat (first | exact List.Mem.head _ | apply List.Mem.tail))))) | (exact Src.own (by (solve | (repeat (first | exact List.Mem.head _ | apply List.Mem.tail))))) | (exact Src.sls (by (solve | (repeat (first | exact List.Mem.head _ | apply List.Mem.tail))))) | (exact Src.celI (by (solve | (repeat (first | exact List.Mem.head _ | apply List.Mem.tail)))) (by first | rfl | assumption | (simp only [List.length_map]; assumption) | (simp only [List.length_map, List.length_replicate]; done) | (simp; done)))))
      intro ob2 cap2 ho2
      refine RL.assign rfl rfl rfl rfl ?_
      refine RL.nil ?_
      refine NQ.block ?_
      refine NQ.seq ?_
      refine CW.only (.cons (k := 1) rfl (.cons (k := 3) rfl (.cons (k := 5) rfl .nil))) ?_
      refine CW.region (ef := []) (bk := []) ?_
      refine RL.move rfl rfl rfl rfl ?_
      refine RL.binX rfl rfl rfl rfl rfl rfl (wrapV_i64 (by omega) (by omega)) ?_
      refine RL.assign rfl rfl rfl rfl ?_
      refine RL.nil ?_
      refine NQ.round (g := (i, ob', c')) (i + 1, ob2, cap2) ⟨hlt, ho2.elim (fun h => by omega) .inr⟩ (by show 3 - (i + 1) < 3 - i; omega) (.cons rfl (.cons (by rw [show 12 + 4 * (i + 1) = 12 + 4 * i + 4 by omega]; rfl) (.cons rfl .nil))) (fun w h => ?_)
      rw [own_is (n' := 12 + 4 * (i + 1)) (xs' := bytes ([r.g0, r.g1, r.g2].flatMap be4 ++ ([r.a0, r.a1, r.a2].take (i + 1)).flatMap be4)) (by omega) (by rw [sel3_take _ _ _ hlt, List.flatMap_append]; simp)] at h
      exact h.rea (fun _ h => h) (by repeat (first | exact Rea.nil | (apply Rea.cons; (solve | (repeat (first | exact Del.here | apply Del.there))))))
    ·
      refine CW.exit ?_
      refine XQ.seq ?_
      refine XQ.seq ?_
      refine XQ.hit ?_
      refine NQ.seq ?_
      refine CW.seq ?_
      refine CW.region (ef := []) (bk := []) ?_
      refine RL.move rfl rfl rfl rfl ?_
      refine RL.assign rfl rfl rfl rfl ?_
      refine RL.nil ?_
      refine NQ.seq ?_
      refine CW.only (.cons (k := 2) rfl .nil) ?_
      refine CW.ret ?_
      refine RQ.block ?_
      have hi3 : i = 3 := by simp at hlt; omega
      subst hi3
      exact RQ.ownB (l := bodyR r) rfl rfl (.keep (Split.none _)) (by unfold bodyR; simp [hk, be4_length]) (by unfold bodyR; simp [hk]) (ho.elim (fun h => by omega) .inr)
end Go.Proofs.YtbdnebedmdoehaaGreat

namespace Go.Proofs.YtbdnebedmdoehaaGreat
open Go.PK

theorem rbody_any (r : Rdg) (hr : r.Ok) : Spc Tryz.prog 87 #[.agg r.cells.toArray] [] [] (OwnB (bodyR r)) := by
  by_cases h1 : r.kind = 1
  · exact rbody_1 r h1 hr
  by_cases h2 : r.kind = 2
  · exact rbody_2 r h2 hr
  by_cases h3 : r.kind = 3
  · exact rbody_3 r h3 hr
  by_cases h4 : r.kind = 4
  · exact rbody_4 r h4 hr
  by_cases h5 : r.kind = 5
  · exact rbody_5 r h5 hr
  by_cases h6 : r.kind = 6
  · exact rbody_6 r h6 hr
  by_cases h7 : r.kind = 7
  · exact rbody_7 r h7 hr
  by_cases h8 : r.kind = 8
  · exact rbody_8 r h8 hr
  by_cases h10 : r.kind = 10
  · exact rbody_10 r h10 hr
  by_cases h12 : r.kind = 12
  · exact rbody_12 r h12 hr
  by_cases h13 : r.kind = 13
  · exact rbody_13 r h13 hr
  by_cases h14 : r.kind = 14
  · exact rbody_14 r h14 hr
  exact rbody_none r ⟨h1, h2, h3, h4, h5, h6, h7, h8, h10, h12, h13, h14⟩

theorem rput_bad (r : Rdg) (hk : ¬ (1 ≤ r.kind ∧ r.kind ≤ 14)) : Spc Tryz.prog 65 #[.agg r.cells.toArray] [] [] (PutR r) := by
  have hs : sizeV r.kind = .tuple #[.int .i64 0, .int .i64 120] := by rw [sizeV, if_neg hk]
  obtain ⟨e1, e2⟩ := put_no (not_okP hk)
  refine Spc.enter Tryz.func65 rfl rfl rfl (fun w0 hw0 => ?_)
  refine CW.seq ?_
  refine CW.region (ef := [0]) (bk := []) ?_
  refine RL.box rfl rfl rfl rfl rfl rfl ?_
  intro b1
  refine RL.assign rfl rfl rfl rfl ?_
  refine RL.assign rfl rfl rfl rfl ?_
  refine RL.nil ?_
  refine NQ.seq ?_
  refine CW.seq ?_
  refine CW.seq ?_
  refine CW.region (ef := []) (bk := []) ?_
  refine RL.fieldAddr fa_68_0 rfl rfl rfl rfl ?_
  refine RL.loadq Tryz.isAgg3 rfl rfl rfl rfl ?_
  refine RL.callvq (rsize_any r.kind) Tryz.call49 rfl rfl rfl rfl ?_
  refine RL.move rfl rfl rfl rfl ?_
  rw [hs]
  refine RL.extract rfl rfl rfl rfl rfl ?_
  refine RL.extract rfl rfl rfl rfl rfl ?_
  refine RL.assign rfl rfl rfl rfl ?_
  refine RL.assign rfl rfl rfl rfl ?_
  refine RL.nil ?_
  refine NQ.seq ?_
  refine CW.only (.cons (k := 1) rfl (.cons (k := 2) rfl (.cons (k := 3) rfl (.cons (k := 5) rfl .nil)))) ?_
  refine CW.seq ?_
  refine CW.region (ef := []) (bk := []) ?_
  refine RL.move rfl rfl rfl rfl ?_
  refine RL.bin rfl rfl rfl rfl rfl rfl ?_
  refine RL.nil ?_
  refine NQ.seq ?_
  refine CW.condT rfl (rfl) ?_
  refine CW.seq ?_
  refine CW.region (ef := []) (bk := []) ?_
  refine RL.move rfl rfl rfl rfl ?_
  refine RL.assign rfl rfl rfl rfl ?_
  refine RL.assign rfl rfl rfl rfl ?_
  refine RL.nil ?_
  refine NQ.seq ?_
  refine CW.ret ?_
  refine RQ.seq ?_
  refine RQ.ownNone (e := 5) 1 ?_
  unfold PutR
  rw [e1, e2]
  exact RQ.post (res2 rfl rfl rfl) (.keep (Split.none _)) ⟨none, 0, rfl, rfl, rfl⟩

theorem rput_none (r : Rdg) (hr : r.Ok) (hk : 1 ≤ r.kind ∧ r.kind ≤ 14) (hg : gotR r.kind (bodyR r) = none) : Spc Tryz.prog 65 #[.agg r.cells.toArray] [] [] (PutR r) := by
  have hs : sizeV r.kind = .tuple #[.int .i64 (sizeR r.kind : Int), .int .i64 0] := by rw [sizeV, if_pos hk]
  have hbl := bodyR_len r
  have hno : ¬ okP r := by
    rintro ⟨x, hx, -⟩
    rw [hg] at hx
    cases hx
  obtain ⟨e1, e2⟩ := put_no hno
  refine Spc.enter Tryz.func65 rfl rfl rfl (fun w0 hw0 => ?_)
  refine CW.seq ?_
  refine CW.region (ef := [0]) (bk := []) ?_
  refine RL.box rfl rfl rfl rfl rfl rfl ?_
  intro b1
  refine RL.assign rfl rfl rfl rfl ?_
  refine RL.assign rfl rfl rfl rfl ?_
  refine RL.nil ?_
  refine NQ.seq ?_
  refine CW.seq ?_
  refine CW.seq ?_
  refine CW.region (ef := []) (bk := []) ?_
  refine RL.fieldAddr fa_68_0 rfl rfl rfl rfl ?_
  refine RL.loadq Tryz.isAgg3 rfl rfl rfl rfl ?_
  refine RL.callvq (rsize_any r.kind) Tryz.call49 rfl rfl rfl rfl ?_
  refine RL.move rfl rfl rfl rfl ?_
  rw [hs]
  refine RL.extract rfl rfl rfl rfl rfl ?_
  refine RL.extract rfl rfl rfl rfl rfl ?_
  refine RL.assign rfl rfl rfl rfl ?_
  refine RL.assign rfl rfl rfl rfl ?_
  refine RL.nil ?_
  refine NQ.seq ?_
  refine CW.only (.cons (k := 1) rfl (.cons (k := 2) rfl (.cons (k := 3) rfl (.cons (k := 5) rfl .nil)))) ?_
  refine CW.seq ?_
  refine CW.region (ef := []) (bk := []) ?_
  refine RL.move rfl rfl rfl rfl ?_
  refine RL.bin rfl rfl rfl rfl rfl rfl ?_
  refine RL.nil ?_
  refine NQ.seq ?_
  refine CW.condF rfl (rfl) ?_
  refine CW.skip ?_
  refine NQ.seq ?_
  refine CW.seq ?_
  refine CW.region (ef := [1]) (bk := []) ?_
  refine RL.loadW Tryz.isAgg68 Tryz.sizeOf68 rfl rfl rfl rfl (by repeat (first | exact List.Mem.head _ | apply List.Mem.tail)) (by first | rfl | assumption | (simp only [List.length_map]; assumption) | (simp only [List.length_map, List.length_replicate]; done) | (simp; done)) ?_
  refine RL.callq (rbody_any r hr) Tryz.call87 rfl rfl rfl rfl rfl (.inl rfl) ?_
  rintro _ _ _ ⟨ob1, cap1, rfl, rfl, rfl, ho1⟩
  refine RL.assign rfl rfl rfl rfl ?_
  refine RL.nil ?_
  refine NQ.seq ?_
  refine CW.only (.cons (k := 1) rfl (.cons (k := 6) rfl .nil)) ?_
  refine CW.seq ?_
  refine CW.region (ef := [7, 8]) (bk := [8]) ?_
  refine RL.fieldAddr fa_68_0 rfl rfl rfl rfl ?_
  refine RL.loadq Tryz.isAgg3 rfl rfl rfl rfl ?_
  refine RL.move rfl rfl rfl rfl ?_
  refine RL.callv (rgot_any r.kind (ob1.map fun b => ⟨b, 0, none⟩) (bodyR r).length cap1 (bodyR r) rfl (by omega)) Tryz.call23 rfl rfl rfl rfl (Lend.own (by repeat (first | exact List.Mem.head _ | apply List.Mem.tail)) .nil) ?_
  refine RL.move rfl rfl rfl rfl ?_
  rw [hg]
  unfold gotV
  refine RL.extract rfl rfl rfl rfl rfl ?_
  refine RL.extract rfl rfl rfl rfl rfl ?_
  refine RL.alloc Tryz.zeroValue68 rfl rfl rfl rfl rfl ?_
  intro b2
  refine RL.storeW Tryz.sizeOf68 rfl rfl rfl rfl rfl rfl rfl (by first | rfl | exact ones_map one8 _ | exact ones_map (fun _ => rfl) _) (by repeat (first | exact Upd.here | apply Upd.there)) (by first | rfl | assumption | (simp only [List.length_map]; assumption) | (simp only [List.length_map, List.length_replicate]; done) | (simp; done)) (by first | rfl | assumption | (simp only [List.length_map]; assumption) | (simp only [List.length_map, List.length_replicate]; done) | (simp; done)) ?_
  refine RL.assign rfl rfl rfl rfl ?_
  refine RL.nil ?_
  refine NQ.seq ?_
  refine CW.only (.cons (k := 1) rfl (.cons (k := 6) rfl (.cons (k := 7) rfl (.cons (k := 8) rfl .nil)))) ?_
  refine CW.seq ?_
  refine CW.seq ?_
  refine CW.region (ef := []) (bk := []) ?_
  refine RL.move rfl rfl rfl rfl ?_
  refine RL.bin rfl rfl rfl rfl rfl rfl ?_
  refine RL.move rfl rfl rfl rfl ?_
  refine RL.cast (d := 29) (v' := .bool true) rfl (rfl) ?_
  refine RL.skip rfl rfl rfl rfl ?_
  refine RL.skip rfl rfl rfl rfl ?_
  refine RL.skip rfl rfl rfl rfl ?_
  refine RL.pickT rfl rfl rfl rfl rfl ?_
  refine RL.nil ?_
  refine NQ.seq ?_
  refine CW.only (.cons (k := 6) rfl (.cons (k := 33) rfl .nil)) ?_
  refine CW.condT rfl rfl ?_
  refine CW.seq ?_
  refine CW.region (ef := []) (bk := []) ?_
  refine RL.assign rfl rfl rfl rfl ?_
  refine RL.assign rfl rfl rfl rfl ?_
  refine RL.nil ?_
  refine NQ.seq ?_
  refine CW.ret ?_
  refine RQ.seq ?_
  refine RQ.ownNone (e := 5) 1 ?_
  unfold PutR
  rw [e1, e2]
  exact RQ.post (res2 rfl rfl rfl) (.keep (Split.none _)) ⟨none, 0, rfl, rfl, rfl⟩
theorem rput_some (r x : Rdg) (hr : r.Ok) (hk : 1 ≤ r.kind ∧ r.kind ≤ 14) (hg : gotR r.kind (bodyR r) = some x) : Spc Tryz.prog 65 #[.agg r.cells.toArray] [] [] (PutR r) := by
  have hs : sizeV r.kind = .tuple #[.int .i64 (sizeR r.kind : Int), .int .i64 0] := by rw [sizeV, if_pos hk]
  have hbl := bodyR_len r
  have hx := got_ok hr.kind hg
  have hok : okP r ↔ x.cells = r.cells := ⟨fun ⟨y, h1, h2⟩ => by rw [hg] at h1; cases h1; exact h2, fun h => ⟨x, hg, h⟩⟩
  refine Spc.enter Tryz.func65 rfl rfl rfl (fun w0 hw0 => ?_)
  refine CW.seq ?_
  refine CW.region (ef := [0]) (bk := []) ?_
  refine RL.box rfl rfl rfl rfl rfl rfl ?_
  intro b1
  refine RL.assign rfl rfl rfl rfl ?_
  refine RL.assign rfl rfl rfl rfl ?_
  refine RL.nil ?_
  refine NQ.seq ?_
  refine CW.seq ?_
  refine CW.seq ?_
  refine CW.region (ef := []) (bk := []) ?_
  refine RL.fieldAddr fa_68_0 rfl rfl rfl rfl ?_
  refine RL.loadq Tryz.isAgg3 rfl rfl rfl rfl ?_
  refine RL.callvq (rsize_any r.kind) Tryz.call49 rfl rfl rfl rfl ?_
  refine RL.move rfl rfl rfl rfl ?_
  rw [hs]
  refine RL.extract rfl rfl rfl rfl rfl ?_
  refine RL.extract rfl rfl rfl rfl rfl ?_
  refine RL.assign rfl rfl rfl rfl ?_
  refine RL.assign rfl rfl rfl rfl ?_
  refine RL.nil ?_
  refine NQ.seq ?_
  refine CW.only (.cons (k := 1) rfl (.cons (k := 2) rfl (.cons (k := 3) rfl (.cons (k := 5) rfl .nil)))) ?_
  refine CW.seq ?_
  refine CW.region (ef := []) (bk := []) ?_
  refine RL.move rfl rfl rfl rfl ?_
  refine RL.bin rfl rfl rfl rfl rfl rfl ?_
  refine RL.nil ?_
  refine NQ.seq ?_
  refine CW.condF rfl (rfl) ?_
  refine CW.skip ?_
  refine NQ.seq ?_
  refine CW.seq ?_
  refine CW.region (ef := [1]) (bk := []) ?_
  refine RL.loadW Tryz.isAgg68 Tryz.sizeOf68 rfl rfl rfl rfl (by repeat (first | exact List.Mem.head _ | apply List.Mem.tail)) (by first | rfl | assumption | (simp only [List.length_map]; assumption) | (simp only [List.length_map, List.length_replicate]; done) | (simp; done)) ?_
  refine RL.callq (rbody_any r hr) Tryz.call87 rfl rfl rfl rfl rfl (.inl rfl) ?_
  rintro _ _ _ ⟨ob1, cap1, rfl, rfl, rfl, ho1⟩
  refine RL.assign rfl rfl rfl rfl ?_
  refine RL.nil ?_
  refine NQ.seq ?_
  refine CW.only (.cons (k := 1) rfl (.cons (k := 6) rfl .nil)) ?_
  refine CW.seq ?_
  refine CW.region (ef := [7, 8]) (bk := [8]) ?_
  refine RL.fieldAddr fa_68_0 rfl rfl rfl rfl ?_
  refine RL.loadq Tryz.isAgg3 rfl rfl rfl rfl ?_
  refine RL.move rfl rfl rfl rfl ?_
  refine RL.callv (rgot_any r.kind (ob1.map fun b => ⟨b, 0, none⟩) (bodyR r).length cap1 (bodyR r) rfl (by omega)) Tryz.call23 rfl rfl rfl rfl (Lend.own (by repeat (first | exact List.Mem.head _ | apply List.Mem.tail)) .nil) ?_
  refine RL.move rfl rfl rfl rfl ?_
  rw [hg]
  unfold gotV
  refine RL.extract rfl rfl rfl rfl rfl ?_
  refine RL.extract rfl rfl rfl rfl rfl ?_
  refine RL.alloc Tryz.zeroValue68 rfl rfl rfl rfl rfl ?_
  intro b2
  refine RL.storeW Tryz.sizeOf68 rfl rfl rfl rfl rfl rfl rfl (by first | rfl | exact ones_map one8 _ | exact ones_map (fun _ => rfl) _) (by repeat (first | exact Upd.here | apply Upd.there)) (by first | rfl | assumption | (simp only [List.length_map]; assumption) | (simp only [List.length_map, List.length_replicate]; done) | (simp; done)) (by first | rfl | assumption | (simp only [List.length_map]; assumption) | (simp only [List.length_map, List.length_replicate]; done) | (simp; done)) ?_
  refine RL.assign rfl rfl rfl rfl ?_
  refine RL.nil ?_
  refine NQ.seq ?_
  refine CW.only (.cons (k := 1) rfl (.cons (k := 6) rfl (.cons (k := 7) rfl (.cons (k := 8) rfl .nil)))) ?_
  refine CW.seq ?_
  refine CW.seq ?_
  refine CW.region (ef := []) (bk := []) ?_
  refine RL.move rfl rfl rfl rfl ?_
  refine RL.bin rfl rfl rfl rfl rfl rfl ?_
  refine RL.move rfl rfl rfl rfl ?_
  refine RL.cast (d := 29) (v' := .bool false) rfl (rfl) ?_
  refine RL.loadW Tryz.isAgg68 Tryz.sizeOf68 rfl rfl rfl rfl (by repeat (first | exact List.Mem.head _ | apply List.Mem.tail)) (by first | rfl | assumption | (simp only [List.length_map]; assumption) | (simp only [List.length_map, List.length_replicate]; done) | (simp; done)) ?_
  refine RL.loadW Tryz.isAgg68 Tryz.sizeOf68 rfl rfl rfl rfl (by repeat (first | exact List.Mem.head _ | apply List.Mem.tail)) (by first | rfl | assumption | (simp only [List.length_map]; assumption) | (simp only [List.length_map, List.length_replicate]; done) | (simp; done)) ?_
  obtain ⟨c, hc⟩ : ∃ c : Bool, c = true ↔ x.cells = r.cells := ⟨@decide _ (Classical.propDecidable (x.cells = r.cells)), by simp⟩
  refine RL.cmp rfl rfl rfl rfl rfl (neq_rdg (r := c) hx hr hc _ _) ?_
  refine RL.pickF rfl rfl rfl rfl rfl ?_
  refine RL.nil ?_
  refine NQ.seq ?_
  refine CW.only (.cons (k := 6) rfl (.cons (k := 33) rfl .nil)) ?_
  refine CW.cond rfl (fun hne => ?_) (fun hne => ?_)
  ·
    refine CW.seq ?_
    refine CW.region (ef := []) (bk := []) ?_
    refine RL.assign rfl rfl rfl rfl ?_
    refine RL.assign rfl rfl rfl rfl ?_
    refine RL.nil ?_
    refine NQ.seq ?_
    refine CW.ret ?_
    refine RQ.seq ?_
    have hno : ¬ okP r := by
      rw [hok, ← hc]
      intro e
      rw [e] at hne
      cases hne
    obtain ⟨e1, e2⟩ := put_no hno
    refine RQ.ownNone (e := 5) 1 ?_
    unfold PutR
    rw [e1, e2]
    exact RQ.post (res2 rfl rfl rfl) (.keep (Split.none _)) ⟨none, 0, rfl, rfl, rfl⟩
  ·
    refine CW.skip ?_
    refine NQ.seq ?_
    refine CW.seq ?_
    refine CW.region (ef := []) (bk := []) ?_
    refine RL.move rfl rfl rfl rfl ?_
    refine RL.assign rfl rfl rfl rfl ?_
    refine RL.assign rfl rfl rfl rfl ?_
    refine RL.nil ?_
    refine NQ.seq ?_
    refine CW.ret ?_
    have hyes : okP r := by
      rw [hok, ← hc]
      cases c with
      | true => rfl
      | false => cases hne
    obtain ⟨e1, e2⟩ := put_yes hyes
    unfold PutR
    rw [e1, e2]
    exact RQ.post (res2 rfl rfl rfl) (.drop (.keep (Split.none _))) ⟨ob1, cap1, rfl, rfl, rfl⟩
theorem rput_any (r : Rdg) (hr : r.Ok) : Spc Tryz.prog 65 #[.agg r.cells.toArray] [] [] (PutR r) := by
  by_cases hk : 1 ≤ r.kind ∧ r.kind ≤ 14
  · cases hg : gotR r.kind (bodyR r) with
    | none => exact rput_none r hr hk hg
    | some x => exact rput_some r x hr hk hg
  · exact rput_bad r hk
end Go.Proofs.YtbdnebedmdoehaaGreat
