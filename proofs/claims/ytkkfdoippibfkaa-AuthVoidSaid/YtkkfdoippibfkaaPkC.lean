/-
  PK, part C: operations that touch no memory; calls; a function's contract.
-/
import Derived.Test.YtkkfdoippibfkaaPkB
namespace Go.PK

section
variable {P : Program} {L : List Oper} {ef bk : List Nat} {tq : Tq} {Q : Exit → Act → World → Prop} {N : Nat} {E : Env} {w0 : World} {S : List Nat} {I H : List It} {i : Nat} {l : Sq}
variable {d : Nat} {x y z : Operand} {ty t yt : TypeId} {pos : String} {af : Array Edge} {g : Option (Nat × Bool)} {v : Value} {k k' : IntKind} {m n : Int}

theorem RL.move (ho : nth L i = some ⟨some d, .move x, ty, pos, af, g⟩) (hw : wants L E ⟨some d, .move x, ty, pos, af, g⟩ = true) (hN : Nat.blt d N = true) (hx : E.ev x = some v)
    (h : RL P L ef bk tq Q l N ((d, v) :: E) w0 S I H) : RL P L ef bk tq Q (.cons i l) N E w0 S I H :=
  RL.pval ho hw rfl hN (fun a w ha => by simp only [execOp, ha.ev hx]; rfl) h

theorem RL.assign (ho : nth L i = some ⟨some d, .assign x, ty, pos, af, g⟩) (hw : wants L E ⟨some d, .assign x, ty, pos, af, g⟩ = true) (hN : Nat.blt d N = true) (hx : E.ev x = some v)
    (h : RL P L ef bk tq Q l N ((d, v) :: E) w0 S I H) : RL P L ef bk tq Q (.cons i l) N E w0 S I H :=
  RL.pval ho hw rfl hN (fun a w ha => by simp only [execOp, ha.ev hx]; rfl) h

theorem RL.pickT {u : Value} (ho : nth L i = some ⟨some d, .pick x y z, ty, pos, af, g⟩) (hw : wants L E ⟨some d, .pick x y z, ty, pos, af, g⟩ = true) (hN : Nat.blt d N = true) (hx : E.ev x = some (.bool true))
    (hy : E.ev y = some u) (h : RL P L ef bk tq Q l N ((d, u) :: E) w0 S I H) : RL P L ef bk tq Q (.cons i l) N E w0 S I H :=
  RL.pval ho hw rfl hN (fun a w ha => by simp only [execOp, ha.ev hx, ha.ev hy]; rfl) h

theorem RL.pickF {u : Value} (ho : nth L i = some ⟨some d, .pick x y z, ty, pos, af, g⟩) (hw : wants L E ⟨some d, .pick x y z, ty, pos, af, g⟩ = true) (hN : Nat.blt d N = true) (hx : E.ev x = some (.bool false))
    (hz : E.ev z = some u) (h : RL P L ef bk tq Q l N ((d, u) :: E) w0 S I H) : RL P L ef bk tq Q (.cons i l) N E w0 S I H :=
  RL.pval ho hw rfl hN (fun a w ha => by simp only [execOp, ha.ev hx, ha.ev hz]; rfl) h

/-- What an operator makes of two integers of one kind. -/
def ib : BinOp → IntKind → Int → Int → Option Value
  | .add, k, a, b => some (.int k (k.wrap (a + b)))
  | .sub, k, a, b => some (.int k (k.wrap (a - b)))
  | .mul, k, a, b => some (.int k (k.wrap (a * b)))
  | .and, k, a, b => some (.int k (k.wrap (BitVec.ofInt k.bits a &&& BitVec.ofInt k.bits b).toNat))
  | .or, k, a, b => some (.int k (k.wrap (BitVec.ofInt k.bits a ||| BitVec.ofInt k.bits b).toNat))
  | .xor, k, a, b => some (.int k (k.wrap (BitVec.ofInt k.bits a ^^^ BitVec.ofInt k.bits b).toNat))
  | .andNot, k, a, b => some (.int k (k.wrap (BitVec.ofInt k.bits a &&& ~~~BitVec.ofInt k.bits b).toNat))
  | .eql, _, a, b => some (.bool (a == b))
  | .neq, _, a, b => some (.bool (a != b))
  | .lss, _, a, b => some (.bool (decide (a < b)))
  | .leq, _, a, b => some (.bool (decide (a ≤ b)))
  | .gtr, _, a, b => some (.bool (decide (a > b)))
  | .geq, _, a, b => some (.bool (decide (a ≥ b)))
  | _, _, _, _ => none

theorem exec_bin {ρ : Operand → Value} {dst : Option Tmp} {op : BinOp} (hx : ρ x = .int k m) (hy : ρ y = .int k n) (hv : ib op k m n = some v) (w : World) :
    (execOp ρ ⟨dst, .binOp op t x y yt, ty, pos, af, g⟩).run P w = .ok (.value v) w := by
  cases op <;> simp only [ib, Option.some.injEq, reduceCtorEq] at hv <;> subst hv <;> simp [execOp, hx, hy, eqGuard, binOp, Op.intArith, Op.intBits, Op.intCmp]

theorem RL.bin {op : BinOp} (ho : nth L i = some ⟨some d, .binOp op t x y yt, ty, pos, af, g⟩) (hw : wants L E ⟨some d, .binOp op t x y yt, ty, pos, af, g⟩ = true) (hN : Nat.blt d N = true)
    (hx : E.ev x = some (.int k m)) (hy : E.ev y = some (.int k n)) (hv : ib op k m n = some v) (h : RL P L ef bk tq Q l N ((d, v) :: E) w0 S I H) : RL P L ef bk tq Q (.cons i l) N E w0 S I H :=
  RL.pval ho hw rfl hN (fun _ w ha => exec_bin (ha.ev hx) (ha.ev hy) hv w) h

/-- The like, its value written otherwise. -/
theorem RL.binX {op : BinOp} {v' : Value} (ho : nth L i = some ⟨some d, .binOp op t x y yt, ty, pos, af, g⟩) (hw : wants L E ⟨some d, .binOp op t x y yt, ty, pos, af, g⟩ = true) (hN : Nat.blt d N = true)
    (hx : E.ev x = some (.int k m)) (hy : E.ev y = some (.int k n)) (hv : ib op k m n = some v) (hc : v = v') (h : RL P L ef bk tq Q l N ((d, v') :: E) w0 S I H) : RL P L ef bk tq Q (.cons i l) N E w0 S I H :=
  RL.bin ho hw hN hx hy hv (hc ▸ h)

theorem wrapV_i64 {n : Int} (h1 : -9223372036854775808 ≤ n) (h2 : n ≤ 9223372036854775807) : Value.int .i64 (IntKind.i64.wrap n) = .int .i64 n := by
  have : IntKind.i64.wrap n = n := IntWalk.i64_in _ (by omega)
  rw [this]

theorem RL.quo (ho : nth L i = some ⟨some d, .binOp .quo t x y yt, ty, pos, af, g⟩) (hw : wants L E ⟨some d, .binOp .quo t x y yt, ty, pos, af, g⟩ = true) (hN : Nat.blt d N = true)
    (hx : E.ev x = some (.int k m)) (hy : E.ev y = some (.int k n)) (hn : n ≠ 0) (h : RL P L ef bk tq Q l N ((d, .int k (k.wrap (m.tdiv n))) :: E) w0 S I H) : RL P L ef bk tq Q (.cons i l) N E w0 S I H :=
  RL.pval ho hw rfl hN (fun _ w ha => by simp [execOp, ha.ev hx, ha.ev hy, eqGuard, binOp, Op.intDiv, hn]) h

theorem RL.rem (ho : nth L i = some ⟨some d, .binOp .rem t x y yt, ty, pos, af, g⟩) (hw : wants L E ⟨some d, .binOp .rem t x y yt, ty, pos, af, g⟩ = true) (hN : Nat.blt d N = true)
    (hx : E.ev x = some (.int k m)) (hy : E.ev y = some (.int k n)) (hn : n ≠ 0) (h : RL P L ef bk tq Q l N ((d, .int k (m.tmod n)) :: E) w0 S I H) : RL P L ef bk tq Q (.cons i l) N E w0 S I H :=
  RL.pval ho hw rfl hN (fun _ w ha => by simp [execOp, ha.ev hx, ha.ev hy, eqGuard, binOp, Op.intDiv, hn]) h

theorem RL.shl (s : Nat) (ho : nth L i = some ⟨some d, .binOp .shl t x y yt, ty, pos, af, g⟩) (hw : wants L E ⟨some d, .binOp .shl t x y yt, ty, pos, af, g⟩ = true) (hN : Nat.blt d N = true)
    (hx : E.ev x = some (.int k m)) (hy : E.ev y = some (.int k' n)) (hn : n = (s : Int)) (hs : s ≤ k.bits) (h : RL P L ef bk tq Q l N ((d, .int k (k.wrap (m * 2 ^ s))) :: E) w0 S I H) : RL P L ef bk tq Q (.cons i l) N E w0 S I H :=
  RL.pval ho hw rfl hN (fun _ w ha => by
    subst hn
    have : ¬ ((s : Int) < 0) := by omega
    simp [execOp, ha.ev hx, ha.ev hy, eqGuard, binOp, Op.shift, this, Nat.min_eq_left hs]) h

theorem RL.shr (s : Nat) (ho : nth L i = some ⟨some d, .binOp .shr t x y yt, ty, pos, af, g⟩) (hw : wants L E ⟨some d, .binOp .shr t x y yt, ty, pos, af, g⟩ = true) (hN : Nat.blt d N = true)
    (hx : E.ev x = some (.int k m)) (hy : E.ev y = some (.int k' n)) (hn : n = (s : Int)) (hs : s ≤ k.bits) (h : RL P L ef bk tq Q l N ((d, .int k (m.fdiv (2 ^ s))) :: E) w0 S I H) : RL P L ef bk tq Q (.cons i l) N E w0 S I H :=
  RL.pval ho hw rfl hN (fun _ w ha => by
    subst hn
    have : ¬ ((s : Int) < 0) := by omega
    simp [execOp, ha.ev hx, ha.ev hy, eqGuard, binOp, Op.shift, this, Nat.min_eq_left hs]) h

theorem RL.not {b : Bool} (ho : nth L i = some ⟨some d, .unOp .not t x, ty, pos, af, g⟩) (hw : wants L E ⟨some d, .unOp .not t x, ty, pos, af, g⟩ = true) (hN : Nat.blt d N = true)
    (hx : E.ev x = some (.bool b)) (h : RL P L ef bk tq Q l N ((d, .bool !b) :: E) w0 S I H) : RL P L ef bk tq Q (.cons i l) N E w0 S I H :=
  RL.pval ho hw rfl hN (fun _ w ha => by simp [execOp, ha.ev hx, Op.unary]) h

theorem RL.neg (ho : nth L i = some ⟨some d, .unOp .neg t x, ty, pos, af, g⟩) (hw : wants L E ⟨some d, .unOp .neg t x, ty, pos, af, g⟩ = true) (hN : Nat.blt d N = true)
    (hx : E.ev x = some (.int k m)) (h : RL P L ef bk tq Q l N ((d, .int k (k.wrap (0 - m))) :: E) w0 S I H) : RL P L ef bk tq Q (.cons i l) N E w0 S I H :=
  RL.pval ho hw rfl hN (fun _ w ha => by simp [execOp, ha.ev hx, Op.unary, Op.intArith]) h

/-- All bits turned. -/
def inv (k : IntKind) (m : Int) : Int := k.wrap (BitVec.ofInt k.bits (if k.signed then -1 else k.max) ^^^ BitVec.ofInt k.bits m).toNat

theorem RL.inv (ho : nth L i = some ⟨some d, .unOp .xor t x, ty, pos, af, g⟩) (hw : wants L E ⟨some d, .unOp .xor t x, ty, pos, af, g⟩ = true) (hN : Nat.blt d N = true)
    (hx : E.ev x = some (.int k m)) (h : RL P L ef bk tq Q l N ((d, .int k (inv k m)) :: E) w0 S I H) : RL P L ef bk tq Q (.cons i l) N E w0 S I H :=
  RL.pval ho hw rfl hN (fun _ w ha => by simp [execOp, ha.ev hx, Op.unary, Op.intBits, PK.inv]) h

theorem RL.conv (hs : ∀ w, (underlying t).run P w = .ok (.int k) w) (hd : ∀ w, (underlying yt).run P w = .ok (.int k') w) (ho : nth L i = some ⟨some d, .convert t yt x, ty, pos, af, g⟩) (hw : wants L E ⟨some d, .convert t yt x, ty, pos, af, g⟩ = true) (hN : Nat.blt d N = true)
    (hx : E.ev x = some (.int k m)) (h : RL P L ef bk tq Q l N ((d, .int k' (k'.wrap m)) :: E) w0 S I H) : RL P L ef bk tq Q (.cons i l) N E w0 S I H :=
  RL.pval ho hw rfl hN (fun _ w ha => by simp [execOp, ha.ev hx, convert, hs, hd, Conv.intToInt]) h

theorem RL.extract {j : Nat} {vs : Array Value} (ho : nth L i = some ⟨some d, .extract x j, ty, pos, af, g⟩) (hw : wants L E ⟨some d, .extract x j, ty, pos, af, g⟩ = true) (hN : Nat.blt d N = true)
    (hx : E.ev x = some (.tuple vs)) (hj : vs[j]? = some v) (h : RL P L ef bk tq Q l N ((d, v) :: E) w0 S I H) : RL P L ef bk tq Q (.cons i l) N E w0 S I H :=
  RL.pval ho hw rfl hN (fun _ w ha => by simp [execOp, ha.ev hx, Instr.extract, hj]) h

theorem RL.nilCheck {p : Addr} (ho : nth L i = some ⟨some d, .nilCheck x, ty, pos, af, g⟩) (hw : wants L E ⟨some d, .nilCheck x, ty, pos, af, g⟩ = true) (hN : Nat.blt d N = true)
    (hx : E.ev x = some (.pointer (some p))) (h : RL P L ef bk tq Q l N ((d, .pointer (some p)) :: E) w0 S I H) : RL P L ef bk tq Q (.cons i l) N E w0 S I H :=
  RL.pval ho hw rfl hN (fun _ w ha => by simp [execOp, ha.ev hx]) h

theorem exec_max {ρ : Operand → Value} {dst : Option Tmp} {ats : Array TypeId} (hx : ρ x = .int k m) (hy : ρ y = .int k n) (w : World) :
    (execOp ρ ⟨dst, .call ⟨.builtin .max, #[x, y], ats⟩, ty, pos, af, g⟩).run P w = .ok (.value (.int k (Max.max m n))) w := by
  simp only [BigFrame.execOp_builtin, BigFrame.builtin_max, List.map_toArray, List.map_cons, List.map_nil, hx, hy]
  have : (if n > m then n else m) = Max.max m n := by rw [Int.max_def]; split <;> split <;> omega
  simp [Builtin.max_, Builtin.max2, this]
theorem exec_min {ρ : Operand → Value} {dst : Option Tmp} {ats : Array TypeId} (hx : ρ x = .int k m) (hy : ρ y = .int k n) (w : World) :
    (execOp ρ ⟨dst, .call ⟨.builtin .min, #[x, y], ats⟩, ty, pos, af, g⟩).run P w = .ok (.value (.int k (Min.min m n))) w := by
  simp only [BigFrame.execOp_builtin, BigFrame.builtin_min, List.map_toArray, List.map_cons, List.map_nil, hx, hy]
  have : (if n < m then n else m) = Min.min m n := by rw [Int.min_def]; split <;> split <;> omega
  simp [Builtin.min_, Builtin.min2, this]
theorem exec_lenS {ρ : Operand → Value} {dst : Option Tmp} {e : TypeId} {p : Option Addr} {len cap : Nat} (hu : ∀ w, (underlying t).run P w = .ok (.slice e) w) (hx : ρ x = .slice p len cap) (w : World) :
    (execOp ρ ⟨dst, .call ⟨.builtin .len, #[x], #[t]⟩, ty, pos, af, g⟩).run P w = .ok (.value (.int .i64 len)) w := by
  simp only [BigFrame.execOp_builtin, BigFrame.builtin_len, List.map_toArray, List.map_cons, List.map_nil, hx]
  simp [Builtin.len_, goInt, hu]
theorem exec_lenStr {ρ : Operand → Value} {dst : Option Tmp} {s : ByteArray} (hu : ∀ w, (underlying t).run P w = .ok .string w) (hx : ρ x = .string s) (w : World) :
    (execOp ρ ⟨dst, .call ⟨.builtin .len, #[x], #[t]⟩, ty, pos, af, g⟩).run P w = .ok (.value (.int .i64 s.size)) w := by
  simp only [BigFrame.execOp_builtin, BigFrame.builtin_len, List.map_toArray, List.map_cons, List.map_nil, hx]
  simp [Builtin.len_, goInt, hu]

theorem RL.max {ats : Array TypeId} (ho : nth L i = some ⟨some d, .call ⟨.builtin .max, #[x, y], ats⟩, ty, pos, af, g⟩) (hw : wants L E ⟨some d, .call ⟨.builtin .max, #[x, y], ats⟩, ty, pos, af, g⟩ = true) (hN : Nat.blt d N = true)
    (hx : E.ev x = some (.int k m)) (hy : E.ev y = some (.int k n)) (h : RL P L ef bk tq Q l N ((d, .int k (Max.max m n)) :: E) w0 S I H) : RL P L ef bk tq Q (.cons i l) N E w0 S I H :=
  RL.pval ho hw rfl hN (fun _ w ha => exec_max (ha.ev hx) (ha.ev hy) w) h

theorem RL.min {ats : Array TypeId} (ho : nth L i = some ⟨some d, .call ⟨.builtin .min, #[x, y], ats⟩, ty, pos, af, g⟩) (hw : wants L E ⟨some d, .call ⟨.builtin .min, #[x, y], ats⟩, ty, pos, af, g⟩ = true) (hN : Nat.blt d N = true)
    (hx : E.ev x = some (.int k m)) (hy : E.ev y = some (.int k n)) (h : RL P L ef bk tq Q l N ((d, .int k (Min.min m n)) :: E) w0 S I H) : RL P L ef bk tq Q (.cons i l) N E w0 S I H :=
  RL.pval ho hw rfl hN (fun _ w ha => exec_min (ha.ev hx) (ha.ev hy) w) h

theorem RL.lenS {e : TypeId} {p : Option Addr} {len cap : Nat} (hu : ∀ w, (underlying t).run P w = .ok (.slice e) w) (ho : nth L i = some ⟨some d, .call ⟨.builtin .len, #[x], #[t]⟩, ty, pos, af, g⟩) (hw : wants L E ⟨some d, .call ⟨.builtin .len, #[x], #[t]⟩, ty, pos, af, g⟩ = true) (hN : Nat.blt d N = true)
    (hx : E.ev x = some (.slice p len cap)) (h : RL P L ef bk tq Q l N ((d, .int .i64 len) :: E) w0 S I H) : RL P L ef bk tq Q (.cons i l) N E w0 S I H :=
  RL.pval ho hw rfl hN (fun _ w ha => exec_lenS hu (ha.ev hx) w) h

theorem RL.lenStr {s : ByteArray} (hu : ∀ w, (underlying t).run P w = .ok .string w) (ho : nth L i = some ⟨some d, .call ⟨.builtin .len, #[x], #[t]⟩, ty, pos, af, g⟩) (hw : wants L E ⟨some d, .call ⟨.builtin .len, #[x], #[t]⟩, ty, pos, af, g⟩ = true) (hN : Nat.blt d N = true)
    (hx : E.ev x = some (.string s)) (h : RL P L ef bk tq Q l N ((d, .int .i64 s.size) :: E) w0 S I H) : RL P L ef bk tq Q (.cons i l) N E w0 S I H :=
  RL.pval ho hw rfl hN (fun _ w ha => exec_lenStr hu (ha.ev hx) w) h

end

/-! ### Calls -/

/-- A function's contract: handed 'args' where the things 'I' (told) and 'H' (its own) are in memory, it returns; 'R' tells what, and which things are told and its own then. -/
def Spc (P : Program) (f : FuncId) (args : Array Value) (I H : List It) (R : Value → List It → List It → Prop) : Prop :=
  ∀ w, Sat I H w → Calls P f args w (fun e w' => ∃ v I' H', e = .returned v ∧ R v I' H' ∧ Keeps (bss H) w w' ∧ Sat I' H' w' ∧ (∀ b ∈ bss H', b ∈ bss H ∨ w.heap.size ≤ b) ∧ (∀ b ∈ bss I', b ∈ bss H ∨ w.heap.size ≤ b))

/-- It hands back this, and nothing in memory. -/
def Is (u : Value) : Value → List It → List It → Prop := fun v I' H' => v = u ∧ I' = [] ∧ H' = []

inductive Pick : List It → List It → List It → Prop
  | nil : Pick [] [] []
  | take {x : It} {H A B : List It} (h : Pick H A B) : Pick (x :: H) (x :: A) B
  | leave {x : It} {H A B : List It} (h : Pick H A B) : Pick (x :: H) A (x :: B)

theorem Pick.memA {H A B : List It} (h : Pick H A B) : ∀ x ∈ A, x ∈ H := by
  induction h with
  | nil => simp
  | take h ih => intro x hx; rcases List.mem_cons.1 hx with rfl | hx
                 · simp
                 · simp [ih x hx]
  | leave h ih => intro x hx; simp [ih x hx]
theorem Pick.memB {H A B : List It} (h : Pick H A B) : ∀ x ∈ B, x ∈ H := by
  induction h with
  | nil => simp
  | take h ih => intro x hx; simp [ih x hx]
  | leave h ih => intro x hx; rcases List.mem_cons.1 hx with rfl | hx
                  · simp
                  · simp [ih x hx]
theorem Pick.perm {H A B : List It} (h : Pick H A B) : (bss H).Perm (bss A ++ bss B) := by
  induction h with
  | nil => exact List.Perm.refl _
  | take h ih => simp only [bss_cons, List.append_assoc]; exact ih.append_left _
  | leave h ih =>
    simp only [bss_cons]
    refine (ih.append_left _).trans ?_
    rw [← List.append_assoc, ← List.append_assoc]
    exact List.perm_append_comm.append_right _

theorem Pick.none : ∀ H : List It, Pick H [] H
  | [] => .nil
  | _ :: H => .leave (Pick.none H)

/-- What is told to a callee: out of what is told, or lent out of one's own. -/
inductive Lend (I F : List It) : List It → Prop
  | nil : Lend I F []
  | inI {x : It} {J : List It} (hx : x ∈ I) (h : Lend I F J) : Lend I F (x :: J)
  | inH {x : It} {J : List It} (hx : x ∈ F) (h : Lend I F J) : Lend I F (x :: J)
  | of {x : It} {J : List It} (hx : ∀ w, Sat I F w → x.A w) (hb : ∀ b ∈ x.bs, b ∈ bss I ∨ b ∈ bss F) (h : Lend I F J) : Lend I F (x :: J)

theorem Lend.spec {I F J : List It} (h : Lend I F J) {w : World} (hw : Sat I F w) : (∀ x ∈ J, x.A w) ∧ ∀ b ∈ bss J, b ∈ bss I ∨ b ∈ bss F := by
  induction h with
  | nil => simp
  | inI hx h ih =>
    refine ⟨fun x h => ?_, fun b hb => ?_⟩
    · rcases List.mem_cons.1 h with rfl | h
      · exact hw.i _ hx
      · exact ih.1 x h
    · rcases List.mem_append.1 hb with hb | hb
      · exact .inl (mem_bss.2 ⟨_, hx, hb⟩)
      · exact ih.2 b hb
  | inH hx h ih =>
    refine ⟨fun x h => ?_, fun b hb => ?_⟩
    · rcases List.mem_cons.1 h with rfl | h
      · exact hw.h _ hx
      · exact ih.1 x h
    · rcases List.mem_append.1 hb with hb | hb
      · exact .inr (mem_bss.2 ⟨_, hx, hb⟩)
      · exact ih.2 b hb
  | of hx hb h ih =>
    refine ⟨fun x h => ?_, fun b hb' => ?_⟩
    · rcases List.mem_cons.1 h with rfl | h
      · exact hx w hw
      · exact ih.1 x h
    · rcases List.mem_append.1 hb' with hb' | hb'
      · exact hb b hb'
      · exact ih.2 b hb'

section
variable {P : Program} {L : List Oper} {ef bk : List Nat} {tq : Tq} {Q : Exit → Act → World → Prop} {N : Nat} {E : Env} {w0 : World} {S : List Nat} {I H : List It} {i : Nat} {l : Sq}
variable {d : Nat} {x y z : Operand} {ty t yt : TypeId} {pos : String} {af : Array Edge} {g : Option (Nat × Bool)} {v : Value} {k k' : IntKind} {m n : Int}

theorem exec_call {a : Act} {dst : Option Tmp} {f : FuncId} {xs : Array Operand} {ats : Array TypeId} (hrun : ∀ args w, (callFunc f args).run P w = .ok (.enter f args) w) (w : World) :
    (execOp a.eval ⟨dst, .call ⟨.value (.func f), xs, ats⟩, ty, pos, af, g⟩).run P w = .ok (.enter f (#[] ++ xs.map a.eval ++ #[])) w := by
  rw [execOp_call_go, hrun]

theorem Sat.part {A B C : List It} {w : World} (h : Sat I H w) (hp : Pick H A B) (hl : Lend I B C) : Sat C A w ∧ Sat I B w := by
  have hperm := hp.perm
  have hnd : (bss A ++ bss B).Nodup := hperm.nodup_iff.1 h.nd
  rw [List.nodup_append] at hnd
  have hB : Sat I B w := ⟨h.i, fun x hx => h.h x (hp.memB x hx), hnd.2.1, fun b hb hb' => h.dj b hb (hperm.mem_iff.2 (List.mem_append_right _ hb'))⟩
  obtain ⟨h1, h2⟩ := hl.spec hB
  refine ⟨⟨h1, fun x hx => h.h x (hp.memA x hx), hnd.1, fun b hb hb' => ?_⟩, hB⟩
  rcases h2 b hb with h3 | h3
  · exact h.dj b h3 (hperm.mem_iff.2 (List.mem_append_left _ hb'))
  · exact hnd.2.2 b hb' b h3 rfl

/-- The worlds behind a call. -/
theorem Cls.call {A B C I' H' : List It} {w w' : World} (h : Cls w0 S I H w) (hp : Pick H A B) (hl : Lend I B C) (hk : Keeps (bss A) w w') (hs : Sat I' H' w')
    (hn : ∀ b ∈ bss H', b ∈ bss A ∨ w.heap.size ≤ b) (hni : ∀ b ∈ bss I', b ∈ bss A ∨ w.heap.size ≤ b) : Cls w0 S (I' ++ I) (H' ++ B) w' := by
  obtain ⟨hA, hB⟩ := h.s.part hp hl
  have hperm := hp.perm
  have hnd : (bss A ++ bss B).Nodup := hperm.nodup_iff.1 h.s.nd
  rw [List.nodup_append] at hnd
  have ltB : ∀ b ∈ bss B, b < w.heap.size := fun b hb => by obtain ⟨x, hx, hbx⟩ := mem_bss.1 hb; exact x.lt w (hB.h x hx) b hbx
  have ltI : ∀ b ∈ bss I, b < w.heap.size := fun b hb => by obtain ⟨x, hx, hbx⟩ := mem_bss.1 hb; exact x.lt w (h.s.i x hx) b hbx
  have nAI : ∀ b ∈ bss I, b ∉ bss A := fun b hb hb' => h.s.dj b hb (hperm.mem_iff.2 (List.mem_append_left _ hb'))
  have nAB : ∀ b ∈ bss B, b ∉ bss A := fun b hb hb' => hnd.2.2 b hb' b hb rfl
  refine ⟨⟨hk.os.trans h.k.os, hk.tape.trans h.k.tape, hk.output.trans h.k.output, Nat.le_trans h.k.size hk.size, fun b hb hbS => ?_, Nat.le_trans h.k.drawn hk.drawn⟩, ⟨?_, ?_, ?_, ?_⟩, ?_⟩
  · rw [hk.block b (Nat.lt_of_lt_of_le hb h.k.size) (fun hbA => hbS (h.own b (hperm.mem_iff.2 (List.mem_append_left _ hbA)) hb)), h.k.block b hb hbS]
  · intro x hx
    rcases List.mem_append.1 hx with hx | hx
    · exact hs.i x hx
    · exact It.grow (h.s.i x hx) hk fun b hb => nAI b (mem_bss.2 ⟨x, hx, hb⟩)
  · intro x hx
    rcases List.mem_append.1 hx with hx | hx
    · exact hs.h x hx
    · exact It.grow (hB.h x hx) hk fun b hb => nAB b (mem_bss.2 ⟨x, hx, hb⟩)
  · rw [bss_append, List.nodup_append]
    refine ⟨hs.nd, hnd.2.1, fun b hb b' hb' e => ?_⟩
    subst e
    rcases hn b hb with h1 | h1
    · exact nAB b hb' h1
    · have := ltB b hb'; omega
  · intro b hb hb'
    rw [bss_append] at hb hb'
    rcases List.mem_append.1 hb with hb | hb <;> rcases List.mem_append.1 hb' with hb' | hb'
    · exact hs.dj b hb hb'
    · rcases hni b hb with h1 | h1
      · exact nAB b hb' h1
      · have := ltB b hb'; omega
    · rcases hn b hb' with h1 | h1
      · exact nAI b hb h1
      · have := ltI b hb; omega
    · exact h.s.dj b hb (hperm.mem_iff.2 (List.mem_append_right _ hb'))
  · intro b hb hlt
    rw [bss_append] at hb
    rcases List.mem_append.1 hb with hb | hb
    · rcases hn b hb with h1 | h1
      · exact h.own b (hperm.mem_iff.2 (List.mem_append_left _ h1)) hlt
      · have := h.k.size; omega
    · exact h.own b (hperm.mem_iff.2 (List.mem_append_right _ hb)) hlt

/-- What growing gave may be forgotten. -/
theorem Cls.forget {I' H' B : List It} {w : World} (hp : Pick H [] B) (h : Cls w0 S (I' ++ I) (H' ++ B) w) : Cls w0 S I H w := by
  have hperm := hp.perm
  simp only [bss_nil, List.nil_append] at hperm
  have hs := h.s
  have hnd := hs.nd
  rw [bss_append, List.nodup_append] at hnd
  refine ⟨h.k, ⟨fun x hx => hs.i x (by simp [hx]), fun x hx => hs.h x ?_, hperm.nodup_iff.2 hnd.2.1, fun b hb hb' => ?_⟩, fun b hb => h.own b ?_⟩
  · have : ∀ {H A B : List It}, Pick H A B → ∀ x ∈ H, x ∈ A ∨ x ∈ B := by
      intro H A B h
      induction h with
      | nil => simp
      | take h ih => intro x hx; rcases List.mem_cons.1 hx with rfl | hx
                     · simp
                     · rcases ih x hx with h | h <;> simp [h]
      | leave h ih => intro x hx; rcases List.mem_cons.1 hx with rfl | hx
                      · simp
                      · rcases ih x hx with h | h <;> simp [h]
    rcases this hp x hx with h | h
    · cases h
    · simp [h]
  · exact hs.dj b (by rw [bss_append]; exact List.mem_append_right _ hb) (by rw [bss_append]; exact List.mem_append_right _ (hperm.mem_iff.1 hb'))
  · rw [bss_append]; exact List.mem_append_right _ (hperm.mem_iff.1 hb)

theorem RL.call {f : FuncId} {args : List Value} {A B C : List It} {R : Value → List It → List It → Prop} {xs : Array Operand} {ats : Array TypeId} (hfn : Spc P f args.toArray C A R)
    (hrun : ∀ args w, (callFunc f args).run P w = .ok (.enter f args) w) (ho : nth L i = some ⟨some d, .call ⟨.value (.func f), xs, ats⟩, ty, pos, af, g⟩) (hw : wants L E ⟨some d, .call ⟨.value (.func f), xs, ats⟩, ty, pos, af, g⟩ = true)
    (hN : Nat.blt d N = true) (hi : ef.contains i = true) (hx : evs E xs.toList = some args) (hp : Pick H A B) (hl : Lend I B C) (hb : A = [] ∨ bk.contains i = true)
    (h : ∀ v I' H', R v I' H' → RL P L ef bk tq Q l N ((d, v) :: E) w0 S (I' ++ I) (H' ++ B)) : RL P L ef bk tq Q (.cons i l) N E w0 S I H := by
  refine RL.eff ho hw hi rfl hN (fun a w ha hC => ?_)
  unfold does
  rw [exec_call hrun]
  have hargs : (#[] ++ xs.map a.eval ++ #[]) = args.toArray := by
    have := ha.evs hx
    apply Array.toList_inj.1
    simpa using this
  show Calls P f _ w _
  rw [hargs]
  refine (hfn w (hC.s.part hp hl).1).mono ?_
  rintro e w' ⟨v, I', H', he, hR, hk, hs, hn, hni⟩
  refine ⟨v, he, I' ++ I, H' ++ B, hC.call hp hl hk hs hn hni, fun x hx => List.mem_append_right _ hx, fun hbk w2 hw2 => ?_, h v I' H' hR⟩
  rcases hb with rfl | hb
  · exact hw2.forget hp
  · rw [hb] at hbk; cases hbk

/-- A call whose answer hangs on no world. -/
theorem RL.callv {f : FuncId} {args : List Value} {C : List It} {u : Value} {xs : Array Operand} {ats : Array TypeId} (hfn : Spc P f args.toArray C [] (Is u))
    (hrun : ∀ args w, (callFunc f args).run P w = .ok (.enter f args) w) (ho : nth L i = some ⟨some d, .call ⟨.value (.func f), xs, ats⟩, ty, pos, af, g⟩) (hw : wants L E ⟨some d, .call ⟨.value (.func f), xs, ats⟩, ty, pos, af, g⟩ = true)
    (hN : Nat.blt d N = true) (hx : evs E xs.toList = some args) (hl : Lend I H C)
    (h : RL P L ef bk tq Q l N ((d, u) :: E) w0 S I H) (ht : tq.l.contains i = false := by rfl) : RL P L ef bk tq Q (.cons i l) N E w0 S I H := by
  refine RL.quiet ho hw rfl hN (fun a w ha hC => ?_) h rfl ht
  unfold does
  rw [exec_call hrun]
  have hargs : (#[] ++ xs.map a.eval ++ #[]) = args.toArray := by
    have := ha.evs hx
    apply Array.toList_inj.1
    simpa using this
  show Calls P f _ w _
  rw [hargs]
  refine (hfn w (hC.s.part (Pick.none H) hl).1).mono ?_
  rintro e w' ⟨v, I', H', he, ⟨rfl, rfl, rfl⟩, hk, hs, hn, hni⟩
  exact ⟨v, he, rfl, hk⟩

/-- The like, where what it is lent was told ahead of the region. -/
theorem RL.callvT {f : FuncId} {args : List Value} {C : List It} {u : Value} {xs : Array Operand} {ats : Array TypeId} (hfn : Spc P f args.toArray C [] (Is u))
    (hrun : ∀ args w, (callFunc f args).run P w = .ok (.enter f args) w) (ho : nth L i = some ⟨some d, .call ⟨.value (.func f), xs, ats⟩, ty, pos, af, g⟩) (hw : wants L E ⟨some d, .call ⟨.value (.func f), xs, ats⟩, ty, pos, af, g⟩ = true)
    (hN : Nat.blt d N = true) (hx : evs E xs.toList = some args) (hl : Lend tq.T [] C)
    (h : RL P L ef bk tq Q l N ((d, u) :: E) w0 S I H) : RL P L ef bk tq Q (.cons i l) N E w0 S I H := by
  refine RL.toldQ ho hw rfl hN (fun a w ha hC => ?_) h
  unfold does
  rw [exec_call hrun]
  have hargs : (#[] ++ xs.map a.eval ++ #[]) = args.toArray := by
    have := ha.evs hx
    apply Array.toList_inj.1
    simpa using this
  show Calls P f _ w _
  rw [hargs]
  have hsat : Sat tq.T [] w := ⟨hC, by simp, by simp, by simp⟩
  refine (hfn w (hsat.part (Pick.none []) hl).1).mono ?_
  rintro e w' ⟨v, I', H', he, ⟨rfl, rfl, rfl⟩, hk, hs, hn, hni⟩
  exact ⟨v, he, rfl, hk⟩

/-- A call of a function that a slot holds. -/
theorem exec_callF {ρ : Operand → Value} {dst : Option Tmp} {f : FuncId} {b1 b2 : Array Value} {xs : Array Operand} {ats : Array TypeId} (hy : ρ y = .func (.func f) b1 b2) :
    execOp ρ ⟨dst, .call ⟨.value y, xs, ats⟩, ty, pos, af, g⟩ = callFunc f (b1 ++ xs.map ρ ++ b2) := by
  simp only [execOp, resolve, hy]; rfl

theorem RL.callvF {f : FuncId} {args : List Value} {C : List It} {u : Value} {xs : Array Operand} {ats : Array TypeId} (hfn : Spc P f args.toArray C [] (Is u))
    (hrun : ∀ args w, (callFunc f args).run P w = .ok (.enter f args) w) (ho : nth L i = some ⟨some d, .call ⟨.value y, xs, ats⟩, ty, pos, af, g⟩) (hw : wants L E ⟨some d, .call ⟨.value y, xs, ats⟩, ty, pos, af, g⟩ = true)
    (hN : Nat.blt d N = true) (hy : E.ev y = some (.func (.func f) #[] #[])) (hx : evs E xs.toList = some args) (hl : Lend I H C)
    (h : RL P L ef bk tq Q l N ((d, u) :: E) w0 S I H) (ht : tq.l.contains i = false := by rfl) : RL P L ef bk tq Q (.cons i l) N E w0 S I H := by
  refine RL.quiet ho hw rfl hN (fun a w ha hC => ?_) h rfl ht
  unfold does
  rw [exec_callF (ha.ev hy), hrun]
  have hargs : (#[] ++ xs.map a.eval ++ #[]) = args.toArray := by
    have := ha.evs hx
    apply Array.toList_inj.1
    simpa using this
  show Calls P f _ w _
  rw [hargs]
  refine (hfn w (hC.s.part (Pick.none H) hl).1).mono ?_
  rintro e w' ⟨v, I', H', he, ⟨rfl, rfl, rfl⟩, hk, hs, hn, hni⟩
  exact ⟨v, he, rfl, hk⟩

/-! ### A function -/

def args0 : List Value → Nat → Env
  | [], _ => []
  | v :: r, n => (n, v) :: args0 r (n + 1)

theorem args0_get : ∀ (l : List Value) (n k : Nat) (v : Value), (args0 l n).get k = some v → n ≤ k ∧ l[k - n]? = some v
  | [], _, _, _, h => by cases h
  | u :: r, n, k, v, h => by
    unfold args0 Env.get at h
    cases he : Nat.beq n k
    · simp only [he, cond_false] at h
      have hne : n ≠ k := by intro e; subst e; simp at he
      obtain ⟨h1, h2⟩ := args0_get r (n + 1) k v h
      refine ⟨by omega, ?_⟩
      rw [show k - n = (k - (n + 1)) + 1 by omega]
      simpa using h2
    · simp only [he, cond_true, Option.some.injEq] at h
      have : n = k := by simpa using he
      subst this; subst h
      simp

/-- What a function must come to. -/
def FnPost (P : Program) (fn : Func) (R : Value → List It → List It → Prop) (w0 : World) (S : List Nat) : Exit → Act → World → Prop :=
  bodyPost P fn (fun e w' => ∃ v I' H', e = .returned v ∧ R v I' H' ∧ Keeps S w0 w' ∧ Sat I' H' w' ∧ (∀ b ∈ bss H', b ∈ S ∨ w0.heap.size ≤ b) ∧ (∀ b ∈ bss I', b ∈ S ∨ w0.heap.size ≤ b))

theorem Spc.enter {f : FuncId} {fn : Func} {c : Code} {args : List Value} {R : Value → List It → List It → Prop} (hf : P.funcs[f]? = some fn) (hb : fn.body = some c) (hn : fn.ntmps = N) (hl : Nat.ble args.length N = true)
    (h : ∀ w0, Sat I H w0 → CW P c (FnPost P fn R w0 (bss H)) N (args0 args 0) w0 (bss H) I H) : Spc P f args.toArray I H R := by
  intro w hw
  refine calls_of_wp hf hb (h w hw _ w ⟨rfl, ?_, ?_⟩ ⟨Keeps.refl _ _, hw, fun b hb _ => hb⟩)
  · have : args.length ≤ N := by simpa using hl
    simp [hn]; omega
  · intro k v hk
    obtain ⟨_, h2⟩ := args0_get args 0 k v hk
    simp only [Nat.sub_zero] at h2
    have hlt : k < args.length := (List.getElem?_eq_some_iff.1 h2).1
    rw [Array.getElem?_append]
    simp only [List.size_toArray, hlt, if_true, List.getElem?_toArray]
    exact h2

/-- At the end each of one's own things is kept (handed on), given (told from now on) or dropped. -/
inductive Split : List It → List It → List It → Prop
  | nil : Split [] [] []
  | keep {x : It} {H A B : List It} (h : Split H A B) : Split (x :: H) (x :: A) B
  | give {x : It} {H A B : List It} (h : Split H A B) : Split (x :: H) A (x :: B)
  | drop {x : It} {H A B : List It} (h : Split H A B) : Split (x :: H) A B

theorem Split.none : ∀ H : List It, Split H [] []
  | [] => .nil
  | _ :: H => .drop (Split.none H)

theorem Split.spec {H A B : List It} (h : Split H A B) : (∀ x ∈ A, x ∈ H) ∧ (∀ x ∈ B, x ∈ H) ∧ ((bss H).Nodup → (bss A).Nodup ∧ ∀ b ∈ bss B, b ∉ bss A) := by
  have sub : ∀ {H A B : List It}, Split H A B → (∀ x ∈ A, x ∈ H) ∧ (∀ x ∈ B, x ∈ H) := by
    intro H A B h
    induction h with
    | nil => simp
    | keep h ih => exact ⟨fun x hx => by rcases List.mem_cons.1 hx with rfl | hx <;> simp_all, fun x hx => by simp [ih.2 x hx]⟩
    | give h ih => exact ⟨fun x hx => by simp [ih.1 x hx], fun x hx => by rcases List.mem_cons.1 hx with rfl | hx <;> simp_all⟩
    | drop h ih => exact ⟨fun x hx => by simp [ih.1 x hx], fun x hx => by simp [ih.2 x hx]⟩
  have subb : ∀ {H A B : List It}, Split H A B → (∀ b ∈ bss A, b ∈ bss H) ∧ (∀ b ∈ bss B, b ∈ bss H) := fun h =>
    ⟨fun b hb => by obtain ⟨x, hx, hbx⟩ := mem_bss.1 hb; exact mem_bss.2 ⟨x, (sub h).1 x hx, hbx⟩, fun b hb => by obtain ⟨x, hx, hbx⟩ := mem_bss.1 hb; exact mem_bss.2 ⟨x, (sub h).2 x hx, hbx⟩⟩
  refine ⟨(sub h).1, (sub h).2, ?_⟩
  induction h with
  | nil => simp
  | keep h ih =>
    intro hnd
    rw [bss_cons, List.nodup_append] at hnd
    obtain ⟨i1, i2⟩ := ih hnd.2.1
    refine ⟨?_, fun b hb hb' => ?_⟩
    · rw [bss_cons, List.nodup_append]
      exact ⟨hnd.1, i1, fun b hb b' hb' => hnd.2.2 b hb b' ((subb h).1 b' hb')⟩
    · rw [bss_cons] at hb'
      rcases List.mem_append.1 hb' with hb' | hb'
      · exact hnd.2.2 b hb' b ((subb h).2 b hb) rfl
      · exact i2 b hb hb'
  | give h ih =>
    intro hnd
    rw [bss_cons, List.nodup_append] at hnd
    obtain ⟨i1, i2⟩ := ih hnd.2.1
    refine ⟨i1, fun b hb hb' => ?_⟩
    rw [bss_cons] at hb
    rcases List.mem_append.1 hb with hb | hb
    · exact hnd.2.2 b hb b ((subb h).1 b hb') rfl
    · exact i2 b hb hb'
  | drop h ih =>
    intro hnd
    rw [bss_cons, List.nodup_append] at hnd
    exact ih hnd.2.1

theorem RQ.post {fn : Func} {R : Value → List It → List It → Prop} {H' I' : List It} (hr : ∀ a w, Ag N a E → Cls w0 S I H w → (results fn a.tmps).run P w = .ok v w) (hs : Split H H' I') (hR : R v I' H') : RQ (FnPost P fn R w0 S) N E w0 S I H := by
  intro a w ha hw
  obtain ⟨s1, s2, s3⟩ := hs.spec
  obtain ⟨s4, s5⟩ := s3 hw.s.nd
  have own : ∀ x ∈ H, ∀ b ∈ x.bs, b ∈ S ∨ w0.heap.size ≤ b := fun x hx b hb => by
    rcases Nat.lt_or_ge b w0.heap.size with h | h
    · exact .inl (hw.own b (mem_bss.2 ⟨x, hx, hb⟩) h)
    · exact .inr h
  refine ⟨ha.d, v, hr a w ha hw, v, I', H', rfl, hR, hw.k, ⟨fun x hx => hw.s.h x (s2 x hx), fun x hx => hw.s.h x (s1 x hx), s4, s5⟩, ?_, ?_⟩
  · intro b hb; obtain ⟨x, hx, hbx⟩ := mem_bss.1 hb; exact own x (s1 x hx) b hbx
  · intro b hb; obtain ⟨x, hx, hbx⟩ := mem_bss.1 hb; exact own x (s2 x hx) b hbx

theorem NQ.post {fn : Func} {R : Value → List It → List It → Prop} {H' I' : List It} (hr : ∀ a w, Ag N a E → Cls w0 S I H w → (results fn a.tmps).run P w = .ok v w) (hs : Split H H' I') (hR : R v I' H') : NQ (FnPost P fn R w0 S) N E w0 S I H :=
  fun a w ha hw => RQ.post (P := P) hr hs hR a w ha hw

theorem res1 {fn : Func} {t : Tmp} (hf : fn.results = #[.tmp t]) (ht : E.get t = some v) : ∀ a w, Ag N a E → Cls w0 S I H w → (results fn a.tmps).run P w = .ok v w := fun a w ha _ => by
  rw [results_tmp hf]; simp [ha.t t v ht]
theorem res2 {fn : Func} {t u : Tmp} {v1 v2 : Value} (hf : fn.results = #[.tmp t, .tmp u]) (ht : E.get t = some v1) (hu : E.get u = some v2) :
    ∀ a w, Ag N a E → Cls w0 S I H w → (results fn a.tmps).run P w = .ok (.tuple #[v1, v2]) w := fun a w ha _ => by
  rw [results_tmp2 hf]; simp [ha.t t v1 ht, ha.t u v2 hu]
theorem res0 {fn : Func} (hf : fn.results = #[]) : ∀ a w, Ag N a E → Cls w0 S I H w → (results fn a.tmps).run P w = .ok (.tuple #[]) w := fun _ _ _ _ => results_none hf _ _ _

end
end Go.PK
