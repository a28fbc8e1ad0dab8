/-
  PK, part I: unsigned integers as words of bits; parts of arrays; copy, make; bytes of a string.
-/
import Derived.Test.YtkkfdoippibfkaaPkH
namespace Go.PK

/-! ### Words -/
abbrev B8 := BitVec 8
abbrev B32 := BitVec 32
def U8 (x : B8) : Value := .int .u8 (x.toNat : Int)
def U32 (x : B32) : Value := .int .u32 (x.toNat : Int)

theorem u8_wrap (n : Int) : IntKind.u8.wrap n = ((BitVec.ofInt 8 n).toNat : Int) := by
  simp [IntKind.wrap, IntKind.bits, IntKind.signed, BitVec.toNat_ofInt]; omega
theorem u32_wrap (n : Int) : IntKind.u32.wrap n = ((BitVec.ofInt 32 n).toNat : Int) := by
  simp [IntKind.wrap, IntKind.bits, IntKind.signed, BitVec.toNat_ofInt]; omega
theorem toNat_of32 (n : Nat) : (BitVec.ofInt 32 (n : Int)).toNat = n % 4294967296 := by rw [BitVec.toNat_ofInt]; omega
theorem ofInt_nat8 (a : B8) : BitVec.ofInt 8 (a.toNat : Int) = a := by simp
theorem ofInt_nat32 (a : B32) : BitVec.ofInt 32 (a.toNat : Int) = a := by simp

abbrev Bin32 (op : BinOp) (f : B32 → B32 → B32) : Prop := ∀ a b : B32, ib op .u32 (a.toNat : Int) (b.toNat : Int) = some (U32 (f a b))
abbrev Bin8 (op : BinOp) (f : B8 → B8 → B8) : Prop := ∀ a b : B8, ib op .u8 (a.toNat : Int) (b.toNat : Int) = some (U8 (f a b))
theorem add32 : Bin32 .add (· + ·) := fun a b => by simp [ib, U32, u32_wrap, BitVec.ofInt_add]
theorem mul32 : Bin32 .mul (· * ·) := fun a b => by simp [ib, U32, u32_wrap, BitVec.ofInt_mul]
theorem and32 : Bin32 .and (· &&& ·) := fun a b => (by simp [ib, U32, u32_wrap, IntKind.bits]; rfl)
theorem or32 : Bin32 .or (· ||| ·) := fun a b => (by simp [ib, U32, u32_wrap, IntKind.bits]; rfl)
theorem xor32 : Bin32 .xor (· ^^^ ·) := fun a b => (by simp [ib, U32, u32_wrap, IntKind.bits]; rfl)
theorem add8 : Bin8 .add (· + ·) := fun a b => by simp [ib, U8, u8_wrap, BitVec.ofInt_add]
theorem and8 : Bin8 .and (· &&& ·) := fun a b => (by simp [ib, U8, u8_wrap, IntKind.bits]; rfl)
theorem or8 : Bin8 .or (· ||| ·) := fun a b => (by simp [ib, U8, u8_wrap, IntKind.bits]; rfl)
theorem xor8 : Bin8 .xor (· ^^^ ·) := fun a b => (by simp [ib, U8, u8_wrap, IntKind.bits]; rfl)

section
variable {P : Program} {L : List Oper} {ef bk : List Nat} {tq : Tq} {Q : Exit → Act → World → Prop} {N : Nat} {E : Env} {w0 : World} {S : List Nat} {I H : List It} {i : Nat} {l : Sq}
variable {d : Nat} {x y z : Operand} {ty t yt : TypeId} {pos : String} {af : Array Edge} {g : Option (Nat × Bool)} {v : Value} {k k' : IntKind} {m n : Int}

theorem RL.bv32 {op : BinOp} {f : B32 → B32 → B32} {a b : B32} (hf : Bin32 op f) (ho : nth L i = some ⟨some d, .binOp op t x y yt, ty, pos, af, g⟩) (hw : wants L E ⟨some d, .binOp op t x y yt, ty, pos, af, g⟩ = true) (hN : Nat.blt d N = true)
    (hx : E.ev x = some (U32 a)) (hy : E.ev y = some (U32 b)) (h : RL P L ef bk tq Q l N ((d, U32 (f a b)) :: E) w0 S I H) : RL P L ef bk tq Q (.cons i l) N E w0 S I H :=
  RL.bin ho hw hN hx hy (hf a b) h
theorem RL.bv8 {op : BinOp} {f : B8 → B8 → B8} {a b : B8} (hf : Bin8 op f) (ho : nth L i = some ⟨some d, .binOp op t x y yt, ty, pos, af, g⟩) (hw : wants L E ⟨some d, .binOp op t x y yt, ty, pos, af, g⟩ = true) (hN : Nat.blt d N = true)
    (hx : E.ev x = some (U8 a)) (hy : E.ev y = some (U8 b)) (h : RL P L ef bk tq Q l N ((d, U8 (f a b)) :: E) w0 S I H) : RL P L ef bk tq Q (.cons i l) N E w0 S I H :=
  RL.bin ho hw hN hx hy (hf a b) h

theorem inv32 (a : B32) : Value.int .u32 (inv .u32 (a.toNat : Int)) = U32 (~~~a) := by
  have h1 : BitVec.ofInt 32 (if IntKind.u32.signed then -1 else IntKind.u32.max) = BitVec.allOnes 32 := by decide
  have h2 : inv .u32 (a.toNat : Int) = IntKind.u32.wrap (BitVec.ofInt 32 (if IntKind.u32.signed then -1 else IntKind.u32.max) ^^^ BitVec.ofInt 32 (a.toNat : Int)).toNat := rfl
  rw [h2, h1, u32_wrap, ofInt_nat32, ofInt_nat32, BitVec.allOnes_xor]
  rfl

theorem RL.inv32 {a : B32} (ho : nth L i = some ⟨some d, .unOp .xor t x, ty, pos, af, g⟩) (hw : wants L E ⟨some d, .unOp .xor t x, ty, pos, af, g⟩ = true) (hN : Nat.blt d N = true)
    (hx : E.ev x = some (U32 a)) (h : RL P L ef bk tq Q l N ((d, U32 (~~~a)) :: E) w0 S I H) : RL P L ef bk tq Q (.cons i l) N E w0 S I H :=
  RL.inv ho hw hN hx (by rw [PK.inv32]; exact h)

theorem shl_u32 (a : B32) (s : Nat) : Value.int .u32 (IntKind.u32.wrap ((a.toNat : Int) * 2 ^ s)) = U32 (a <<< s) := by
  have h : (a.toNat : Int) * 2 ^ s = ((a.toNat * 2 ^ s : Nat) : Int) := by simp
  rw [U32, u32_wrap, h, toNat_of32]
  congr 2
  simp [BitVec.toNat_shiftLeft, Nat.shiftLeft_eq]
theorem shr_u32 (a : B32) (s : Nat) : Value.int .u32 ((a.toNat : Int).fdiv (2 ^ s)) = U32 (a >>> s) := by
  have h : (a.toNat : Int).fdiv (2 ^ s) = ((a.toNat / 2 ^ s : Nat) : Int) := by
    rw [Int.fdiv_eq_ediv_of_nonneg _ (by exact Int.le_of_lt (Int.pow_pos (by decide)))]; simp
  rw [U32, h]
  congr 2
  simp [BitVec.toNat_ushiftRight, Nat.shiftRight_eq_div_pow]

theorem RL.shl32 {a : B32} (s : Nat) (ho : nth L i = some ⟨some d, .binOp .shl t x y yt, ty, pos, af, g⟩) (hw : wants L E ⟨some d, .binOp .shl t x y yt, ty, pos, af, g⟩ = true) (hN : Nat.blt d N = true)
    (hx : E.ev x = some (U32 a)) (hy : E.ev y = some (.int k' n)) (hn : n = (s : Int)) (hs : s ≤ 32) (h : RL P L ef bk tq Q l N ((d, U32 (a <<< s)) :: E) w0 S I H) : RL P L ef bk tq Q (.cons i l) N E w0 S I H :=
  RL.shl s ho hw hN hx hy hn hs (by rw [shl_u32]; exact h)
theorem RL.shr32 {a : B32} (s : Nat) (ho : nth L i = some ⟨some d, .binOp .shr t x y yt, ty, pos, af, g⟩) (hw : wants L E ⟨some d, .binOp .shr t x y yt, ty, pos, af, g⟩ = true) (hN : Nat.blt d N = true)
    (hx : E.ev x = some (U32 a)) (hy : E.ev y = some (.int k' n)) (hn : n = (s : Int)) (hs : s ≤ 32) (h : RL P L ef bk tq Q l N ((d, U32 (a >>> s)) :: E) w0 S I H) : RL P L ef bk tq Q (.cons i l) N E w0 S I H :=
  RL.shr s ho hw hN hx hy hn hs (by rw [shr_u32]; exact h)

theorem quo_u32 (a b : B32) : Value.int .u32 (IntKind.u32.wrap ((a.toNat : Int).tdiv (b.toNat : Int))) = U32 (a / b) := by
  have h : (a.toNat : Int).tdiv (b.toNat : Int) = ((a.toNat / b.toNat : Nat) : Int) := by simp
  rw [U32, u32_wrap, h, toNat_of32]
  congr 2
  have := a.isLt
  have h3 : a.toNat / b.toNat ≤ a.toNat := Nat.div_le_self _ _
  rw [BitVec.toNat_udiv, Nat.mod_eq_of_lt (by omega)]
theorem rem_u32 (a b : B32) : Value.int .u32 ((a.toNat : Int).tmod (b.toNat : Int)) = U32 (a % b) := by
  have h : (a.toNat : Int).tmod (b.toNat : Int) = ((a.toNat % b.toNat : Nat) : Int) := by rw [Int.tmod_eq_emod_of_nonneg (by omega)]; simp
  rw [U32, h]
  congr 2
theorem RL.quo32 {a : B32} (b : B32) (ho : nth L i = some ⟨some d, .binOp .quo t x y yt, ty, pos, af, g⟩) (hw : wants L E ⟨some d, .binOp .quo t x y yt, ty, pos, af, g⟩ = true) (hN : Nat.blt d N = true)
    (hx : E.ev x = some (U32 a)) (hy : E.ev y = some (U32 b)) (hb : b.toNat ≠ 0) (h : RL P L ef bk tq Q l N ((d, U32 (a / b)) :: E) w0 S I H) : RL P L ef bk tq Q (.cons i l) N E w0 S I H :=
  RL.quo ho hw hN hx hy (by omega) (by rw [quo_u32]; exact h)
theorem RL.rem32 {a : B32} (b : B32) (ho : nth L i = some ⟨some d, .binOp .rem t x y yt, ty, pos, af, g⟩) (hw : wants L E ⟨some d, .binOp .rem t x y yt, ty, pos, af, g⟩ = true) (hN : Nat.blt d N = true)
    (hx : E.ev x = some (U32 a)) (hy : E.ev y = some (U32 b)) (hb : b.toNat ≠ 0) (h : RL P L ef bk tq Q l N ((d, U32 (a % b)) :: E) w0 S I H) : RL P L ef bk tq Q (.cons i l) N E w0 S I H :=
  RL.rem ho hw hN hx hy (by omega) (by rw [rem_u32]; exact h)

/-- A byte as a word, and a word's lowest byte. -/
theorem RL.widen {a : B8} (hs : ∀ w, (underlying t).run P w = .ok (.int .u8) w) (hd : ∀ w, (underlying yt).run P w = .ok (.int .u32) w) (ho : nth L i = some ⟨some d, .convert t yt x, ty, pos, af, g⟩) (hw : wants L E ⟨some d, .convert t yt x, ty, pos, af, g⟩ = true) (hN : Nat.blt d N = true)
    (hx : E.ev x = some (U8 a)) (h : RL P L ef bk tq Q l N ((d, U32 (a.setWidth 32)) :: E) w0 S I H) : RL P L ef bk tq Q (.cons i l) N E w0 S I H :=
  RL.conv hs hd ho hw hN hx (by
    have : Value.int .u32 (IntKind.u32.wrap (a.toNat : Int)) = U32 (a.setWidth 32) := by
      rw [U32, u32_wrap]; congr 2; simp
    rw [this]; exact h)
theorem RL.narrow {a : B32} (hs : ∀ w, (underlying t).run P w = .ok (.int .u32) w) (hd : ∀ w, (underlying yt).run P w = .ok (.int .u8) w) (ho : nth L i = some ⟨some d, .convert t yt x, ty, pos, af, g⟩) (hw : wants L E ⟨some d, .convert t yt x, ty, pos, af, g⟩ = true) (hN : Nat.blt d N = true)
    (hx : E.ev x = some (U32 a)) (h : RL P L ef bk tq Q l N ((d, U8 (a.setWidth 8)) :: E) w0 S I H) : RL P L ef bk tq Q (.cons i l) N E w0 S I H :=
  RL.conv hs hd ho hw hN hx (by
    have : Value.int .u8 (IntKind.u8.wrap (a.toNat : Int)) = U8 (a.setWidth 8) := by
      rw [U8, u8_wrap]; congr 2
    rw [this]; exact h)
/-- Any integer's lowest byte. -/
theorem RL.lowest (hs : ∀ w, (underlying t).run P w = .ok (.int k) w) (hd : ∀ w, (underlying yt).run P w = .ok (.int .u8) w) (ho : nth L i = some ⟨some d, .convert t yt x, ty, pos, af, g⟩) (hw : wants L E ⟨some d, .convert t yt x, ty, pos, af, g⟩ = true) (hN : Nat.blt d N = true)
    (hx : E.ev x = some (.int k m)) (h : RL P L ef bk tq Q l N ((d, U8 (BitVec.ofInt 8 m)) :: E) w0 S I H) : RL P L ef bk tq Q (.cons i l) N E w0 S I H :=
  RL.conv hs hd ho hw hN hx (by rw [u8_wrap]; exact h)

/-! ### Places -/
theorem RL.idxAt {e : TypeId} {b off len cap sz j : Nat} (hu : ∀ w, (underlying t).run P w = .ok (.slice e) w) (hs : ∀ w, (sizeOf e).run P w = .ok sz w) (ho : nth L i = some ⟨some d, .indexAddr t x y, ty, pos, af, g⟩) (hw : wants L E ⟨some d, .indexAddr t x y, ty, pos, af, g⟩ = true) (hN : Nat.blt d N = true)
    (hx : E.ev x = some (.slice (some ⟨b, off, none⟩) len cap)) (hy : E.ev y = some (.int k n)) (hj : n = (j : Int)) (hlt : j < len) (h : RL P L ef bk tq Q l N ((d, .pointer (some ⟨b, off + j * sz, none⟩)) :: E) w0 S I H) : RL P L ef bk tq Q (.cons i l) N E w0 S I H :=
  RL.idx hu hs ho hw hN hx hy hj hlt (by rw [add_none]; exact h)
theorem RL.idxAAt {e : TypeId} {b off len sz j : Nat} (hu : ∀ w, (underlying t).run P w = .ok (.array len e) w) (hs : ∀ w, (sizeOf e).run P w = .ok sz w) (ho : nth L i = some ⟨some d, .indexAddr t x y, ty, pos, af, g⟩) (hw : wants L E ⟨some d, .indexAddr t x y, ty, pos, af, g⟩ = true) (hN : Nat.blt d N = true)
    (hx : E.ev x = some (.pointer (some ⟨b, off, none⟩))) (hy : E.ev y = some (.int k n)) (hj : n = (j : Int)) (hlt : j < len) (h : RL P L ef bk tq Q l N ((d, .pointer (some ⟨b, off + j * sz, none⟩)) :: E) w0 S I H) : RL P L ef bk tq Q (.cons i l) N E w0 S I H :=
  RL.idxA hu hs ho hw hN hx hy hj hlt (by rw [add_none]; exact h)

theorem run_bnd {a : Act} (ha : Ag N a E) {o : Option Operand} {len cap : Nat} {lo : Nat} (hl : bnd E o len = some (lo : Int)) (h : lo ≤ cap) (s : BoundsCode) (w : World) :
    (match o.map a.eval with | some v => Instr.sliceBound v cap s | none => pure len : Sem Nat).run P w = .ok lo w := by
  cases o with
  | none => simp [bnd] at hl; have : len = lo := by omega
            subst this; rfl
  | some o =>
    simp only [bnd] at hl
    split at hl
    · rename_i kk mm he
      have : mm = (lo : Int) := by simpa using hl
      subst this
      simp only [Option.map_some, ha.ev he]
      exact run_bound h
    · cases hl

/-- 'x[lo:hi]' of an array. -/
theorem RL.sliceA {e : TypeId} {b off len sz lo hi : Nat} {ol oh : Option Operand} (hu : ∀ w, (underlying t).run P w = .ok (.array len e) w) (hs : ∀ w, (sizeOf e).run P w = .ok sz w) (ho : nth L i = some ⟨some d, .slice t x ol oh none, ty, pos, af, g⟩) (hw : wants L E ⟨some d, .slice t x ol oh none, ty, pos, af, g⟩ = true) (hN : Nat.blt d N = true)
    (hx : E.ev x = some (.pointer (some ⟨b, off, none⟩))) (hl : bnd E ol 0 = some (lo : Int)) (hh : bnd E oh len = some (hi : Int)) (h1 : lo ≤ hi) (h2 : hi ≤ len) (h3 : lo < len)
    (h : RL P L ef bk tq Q l N ((d, .slice (some ⟨b, off + lo * sz, none⟩) (hi - lo) (len - lo)) :: E) w0 S I H) : RL P L ef bk tq Q (.cons i l) N E w0 S I H :=
  RL.pval ho hw rfl hN (fun a w ha => by
    have q1 := run_bnd (P := P) ha hh h2 .sliceAlen w
    have q2 := run_bnd (P := P) ha hl h1 .sliceB w
    have hsb : (Instr.sliceBounds false len len (ol.map a.eval) (oh.map a.eval) none).run P w = .ok (lo, hi, len) w := by
      unfold Instr.sliceBounds
      cases oh with
      | none => cases ol with
        | none => simp at q1 q2 ⊢; exact ⟨q2, q1⟩
        | some o => simp at q1 q2 ⊢; subst q1; simp [q2]
      | some o' => cases ol with
        | none => simp at q1 q2 ⊢; subst q2; simp [q1]
        | some o => simp at q1 q2 ⊢; simp [q1, q2]
    have hne : ¬ len = lo := by omega
    show Sem.run P (do pure (Next.value (← Instr.sliceAt t (a.eval x) (ol.map a.eval) (oh.map a.eval) none))) w = _
    rw [ha.ev hx]
    simp [Instr.sliceAt, Instr.sureAddr, hu, hs, hsb, hne, add_none]) h

/-- 'x[:hi:max]' of a slice. -/
theorem RL.slice3 {e : TypeId} {p : Option Addr} {len cap sz hi : Nat} {oh om : Operand} {k1 k2 : IntKind} (hu : ∀ w, (underlying t).run P w = .ok (.slice e) w) (hs : ∀ w, (sizeOf e).run P w = .ok sz w) (ho : nth L i = some ⟨some d, .slice t x none (some oh) (some om), ty, pos, af, g⟩) (hw : wants L E ⟨some d, .slice t x none (some oh) (some om), ty, pos, af, g⟩ = true) (hN : Nat.blt d N = true)
    (hx : E.ev x = some (.slice p len cap)) (hh : E.ev oh = some (.int k1 (hi : Int))) (hm : E.ev om = some (.int k2 (hi : Int))) (h2 : hi ≤ cap)
    (h : RL P L ef bk tq Q l N ((d, .slice p hi hi) :: E) w0 S I H) : RL P L ef bk tq Q (.cons i l) N E w0 S I H :=
  RL.pval ho hw rfl hN (fun a w ha => by
    have hsb : (Instr.sliceBounds true len cap none (some (Value.int k1 (hi : Int))) (some (Value.int k2 (hi : Int)))).run P w = .ok (0, hi, hi) w := by
      have a1 : ∀ s, (Instr.sliceBound (Value.int k2 (hi : Int)) cap s).run P w = .ok hi w := fun s => run_bound h2
      have a2 : ∀ s, (Instr.sliceBound (Value.int k1 (hi : Int)) hi s).run P w = .ok hi w := fun s => run_bound (Nat.le_refl _)
      unfold Instr.sliceBounds
      simp [a1, a2]
    show Sem.run P (do pure (Next.value (← Instr.sliceAt t (a.eval x) none (some (a.eval oh)) (some (a.eval om))))) w = _
    rw [ha.ev hx, ha.ev hh, ha.ev hm]
    by_cases h0 : hi = 0
    · subst h0
      have hsb' := hsb
      simp only [Int.ofNat_zero] at hsb'
      simp [Instr.sliceAt, Instr.slice, hu, hs, hsb']
    · simp [Instr.sliceAt, Instr.slice, hu, hs, hsb, h0]
      cases p with
      | none => rfl
      | some a => simp [Addr.add]) h

/-! ### Copy, make, bytes -/
theorem exec_copy {ρ : Operand → Value} {dst : Option Tmp} {vx vy : Value} {ats : Array TypeId} (hx : ρ x = vx) (hy : ρ y = vy) {r : Value} {w w' : World} (h : (Builtin.copy_ ats ty #[vx, vy]).run P w = .ok r w') :
    (execOp ρ ⟨dst, .call ⟨.builtin .copy, #[x, y], ats⟩, ty, pos, af, g⟩).run P w = .ok (.value r) w' := by
  simp only [BigFrame.execOp_builtin, BigFrame.builtin_copy, List.map_toArray, List.map_cons, List.map_nil, hx, hy]
  simp [h]

theorem RL.turnD {o : Oper} {H' : List It} {x x' : It} (ho : nth L i = some o) (hw : wants L E o = true) (hi : ef.contains i = true) (hb : bk.contains i = true) (hd : o.dst = some d) (hN : Nat.blt d N = true) (hu : Upd H x x' H') (hbs : x'.bs = x.bs)
    (hv : ∀ a w, Ag N a E → Cls w0 S I H w → ∃ w', (execOp a.eval o).run P w = .ok (.value v) w' ∧ Keeps x.bs w w' ∧ x'.A w') (h : RL P L ef bk tq Q l N ((d, v) :: E) w0 S I H') : RL P L ef bk tq Q (.cons i l) N E w0 S I H := by
  refine RL.eff ho hw hi hd hN (fun a w ha hC => ?_)
  obtain ⟨w', h1, h2, h3⟩ := hv a w ha hC
  unfold does
  rw [h1]
  exact ⟨I, H', hC.upd hu h2 hbs h3, fun _ h => h, fun h => (by rw [hb] at h; cases h), h⟩

theorem RL.copy {e T : TypeId} {b off dl dcap mm c2 sz : Nat} {p2 : Option Addr} {cs news : List Value} {H' : List It} {t2 : TypeId} (hu : ∀ w, (underlying t).run P w = .ok (.slice e) w) (hs : ∀ w, (sizeOf e).run P w = .ok sz w)
    (ho : nth L i = some ⟨some d, .call ⟨.builtin .copy, #[x, y], #[t, t2]⟩, ty, pos, af, g⟩) (hw : wants L E ⟨some d, .call ⟨.builtin .copy, #[x, y], #[t, t2]⟩, ty, pos, af, g⟩ = true) (hN : Nat.blt d N = true) (hi : ef.contains i = true) (hb : bk.contains i = true)
    (hx : E.ev x = some (.slice (some ⟨b, off, none⟩) dl dcap)) (hy : E.ev y = some (.slice p2 mm c2)) (hS : Src I H p2 mm sz news) (h1 : ∀ u ∈ news, u.oneCell' = true)
    (hu' : Upd H (PK.cel b cs T) (PK.cel b (spl cs off (news.take (Nat.min mm dl * sz))) T) H') (hl : off + dl * sz ≤ cs.length) (h : RL P L ef bk tq Q l N ((d, .int .i64 (Nat.min mm dl : Nat)) :: E) w0 S I H') : RL P L ef bk tq Q (.cons i l) N E w0 S I H :=
  RL.turnD ho hw hi hb rfl hN hu' rfl (fun a w ha hC => by
    have hA : w.heap[b]? = some (.cells cs.toArray T (0, 0)) := hC.s.h _ hu'.mem
    obtain ⟨g1, g2, g3⟩ := hS w hC.s
    have hml : Nat.min mm dl * sz ≤ mm * sz := Nat.mul_le_mul_right _ (Nat.min_le_left _ _)
    have hdl : Nat.min mm dl * sz ≤ dl * sz := Nat.mul_le_mul_right _ (Nat.min_le_right _ _)
    have hlen : (news.take (Nat.min mm dl * sz)).length = Nat.min mm dl * sz := by rw [List.length_take, g1]; omega
    have hst := run_storeCells_at P b off T (news.take (Nat.min mm dl * sz)) 0 cs.toArray w hA (by simp only [hlen, List.size_toArray]; omega) (fun u hu => h1 u (List.mem_of_mem_take hu))
    refine ⟨w.setRow b (spl cs off (news.take (Nat.min mm dl * sz))).toArray, ?_, Keeps.setRow, setRow_heap w b _ _ T _ hA⟩
    refine exec_copy (ha.ev hx) (ha.ev hy) ?_
    rw [spl_eq cs off _ (by rw [hlen]; omega)]
    simp only [Nat.add_zero] at hst
    have hfc : (Builtin.firstCells sz (Nat.min mm dl) (.slice p2 mm c2)).run P w = .ok (news.take (Nat.min mm dl * sz)).toArray w := by
      cases p2 with
      | none =>
        have := g2 rfl; subst this
        simp [Builtin.firstCells]
      | some q => exact run_firstCells_some (P := P) w sz (Nat.min mm dl) q mm c2 _ hlen (fun j u hj => g3 q rfl j u (by
          rw [List.getElem?_take] at hj; split at hj
          · exact hj
          · cases hj))
    simp [Builtin.copy_, hu, hs, Builtin.lenOf, hfc, hst]
    rfl) h

/-- One thing more that is told, in new blocks. -/
theorem Cls.tell {x : It} {w w' : World} (h : Cls w0 S I H w) (hg : Grow w w') (hx : x.A w') (hb : ∀ b ∈ x.bs, w.heap.size ≤ b) : Cls w0 S (x :: I) H w' := by
  have hO := Cls.open w0 S I H w w' h hg
  have ltH : ∀ b ∈ bss H, b < w.heap.size := fun b hb => by obtain ⟨y, hy, hbx⟩ := mem_bss.1 hb; exact y.lt w (h.s.h y hy) b hbx
  refine ⟨hO.k, ⟨fun y hy => ?_, hO.s.h, hO.s.nd, fun b hb' hbx => ?_⟩, hO.own⟩
  · rcases List.mem_cons.1 hy with rfl | hy
    · exact hx
    · exact hO.s.i y hy
  · rw [bss_cons] at hb'
    rcases List.mem_append.1 hb' with h1 | h1
    · have := hb b h1; have := ltH b hbx; omega
    · exact h.s.dj b h1 hbx
theorem Cls.untell {x : It} {w : World} (h : Cls w0 S (x :: I) H w) : Cls w0 S I H w := h.les (fun _ h => by simp [h]) (Les.refl H)

/-- What is one's own is told from here on, and turns no more. -/
theorem Cls.freeze {x : It} {B : List It} {w : World} (h : Cls w0 S I H w) (hp : Pick H [x] B) : Cls w0 S (x :: I) B w := by
  have hm := hp.perm
  have hnd := hm.nodup_iff.1 h.s.nd
  rw [List.nodup_append] at hnd
  refine ⟨h.k, ⟨fun y hy => ?_, fun y hy => h.s.h y (hp.memB y hy), hnd.2.1, fun b hb hbx => ?_⟩, fun b hb => h.own b (hm.mem_iff.2 (List.mem_append_right _ hb))⟩
  · rcases List.mem_cons.1 hy with rfl | hy
    · exact h.s.h _ (hp.memA _ (by simp))
    · exact h.s.i y hy
  · rw [bss_cons] at hb
    rcases List.mem_append.1 hb with h1 | h1
    · exact hnd.2.2 b (by simpa [PK.bss] using h1) b hbx rfl
    · exact h.s.dj b h1 (hm.mem_iff.2 (List.mem_append_right _ hbx))

theorem zeros_reps {zs : List Value} {n sz : Nat} (hsz : zs.length = sz) (hpos : 0 < sz) : ((Array.range (n * sz)).map fun j => zs.toArray[j % zs.length]!) = (reps zs n).toArray := by
  have hrl : ∀ n, (reps zs n).length = n * sz := by
    intro n; induction n with
    | zero => simp [reps]
    | succ n ih => simp [reps, ih, hsz, Nat.add_mul]; omega
  have hrg : ∀ n j, j < n * sz → (reps zs n)[j]? = zs[j % sz]? := by
    intro n; induction n with
    | zero => intro j hj; simp at hj
    | succ n ih =>
      intro j hj
      simp only [reps, List.getElem?_append, hsz]
      by_cases hjs : j < sz
      · simp [hjs, Nat.mod_eq_of_lt hjs]
      · have hge : sz ≤ j := by omega
        simp only [hjs, if_false]
        rw [ih (j - sz) (by rw [Nat.add_mul] at hj; omega)]
        rw [Nat.mod_eq_sub_mod hge]
  apply Array.ext'
  apply List.ext_getElem?
  intro j
  simp only [Array.toList_map, Array.toList_range, List.getElem?_map]
  by_cases hj : j < n * sz
  · have hjm : j % zs.length < zs.length := by rw [hsz]; exact Nat.mod_lt _ hpos
    have hr := hrg n j hj
    rw [← hsz] at hr
    simp [hj, hr, hjm]
  · have hj' : (reps zs n)[j]? = none := by rw [List.getElem?_eq_none]; rw [hrl]; omega
    simp [hj, hj']

theorem RL.makeSlice {e : TypeId} {ii : TypeInfo} {sz len : Nat} {zs : List Value} {z' : Value} (hu : ∀ w, (underlying t).run P w = .ok (.slice e) w) (hs : ∀ w, (sizeOf e).run P w = .ok sz w) (hti : P.info? e = some ii)
    (hz : ∀ w, (zeroValue e).run P w = .ok z' w) (hzc : z'.cells = zs.toArray) (hsz : zs.length = sz) (hpos : 0 < sz) (hlen : 0 < len) (hb : len * ii.bytes ≤ 1000000) (hl2 : len ≤ 1000000)
    (ho : nth L i = some ⟨some d, .makeSlice t x y, ty, pos, af, g⟩) (hw : wants L E ⟨some d, .makeSlice t x y, ty, pos, af, g⟩ = true) (hN : Nat.blt d N = true) (hi : ef.contains i = true)
    (hx : E.ev x = some (.int k n)) (hxn : n = (len : Int)) (hy : E.ev y = some (.int k' m)) (hyn : m = (len : Int))
    (h : ∀ b, RL P L ef bk tq Q l N ((d, .slice (some ⟨b, 0, none⟩) len len) :: E) w0 S I (cel b (reps zs len) e :: H)) : RL P L ef bk tq Q (.cons i l) N E w0 S I H := by
  subst hxn; subst hyn
  refine RL.make (x := fun b => cel b (reps zs len) e) (u := fun b => .slice (some ⟨b, 0, none⟩) len len) ho hw hi rfl hN (fun a w ha _ => ⟨w.alloc (.cells (reps zs len).toArray e), ?_, Keeps.alloc _ _ _, cel_new, rfl⟩) h
  show Sem.run P (do pure (Next.value (← Instr.makeSlice t (a.eval x) (a.eval y)))) w = _
  rw [ha.ev hx, ha.ev hy]
  have hw1 : IntKind.i64.wrap (len : Int) = len := IntWalk.i64_in _ (by omega)
  have hti' : ∀ w, (typeInfo e).run P w = .ok ii w := fun w => by simp [typeInfo, hti]
  have h0 : ¬ len * sz = 0 := Nat.mul_ne_zero (by omega) (by omega)
  have hzz := zeros_reps (n := len) hsz hpos
  have e1 : ¬ ((len : Int) < 0) := by omega
  have e2 : ¬ ((ii.bytes : Int) * (len : Int) > 281474976710656) := by
    have : (ii.bytes : Int) * (len : Int) = ((len * ii.bytes : Nat) : Int) := by rw [Int.mul_comm]; simp
    omega
  simp only [Instr.makeSlice, Sem.run_bind, hu, asInt, hti', Result.andThen_ok]
  simp [e1, e2, h0, hw1, askRoom, newRow, hs, hz, hzc, asIntOf]
  rw [← hzz]; simp

/-! ### Handy forms -/
theorem Rd.get {b off : Nat} {cs : List Value} {T : TypeId} (hm : PK.cel b cs T ∈ H) (hn : cs[off]? = some v) : Rd I H ⟨b, off, none⟩ v := .cel hm (by rw [nth_eq]; exact hn)
theorem Rd.getI {b off : Nat} {cs : List Value} {T : TypeId} (hm : PK.cel b cs T ∈ I) (hn : cs[off]? = some v) : Rd I H ⟨b, off, none⟩ v := .celI hm (by rw [nth_eq]; exact hn)
theorem Rd.getS {p : Addr} {sz n j : Nat} {xs : List Value} (hm : PK.sls (some p) sz n xs ∈ I) (hn : xs[j]? = some v) : Rd I H (p.add j) v := (Rds.sls hm).rd hn
theorem Rd.getO {b cap sz n j : Nat} {e : TypeId} {xs : List Value} (hm : PK.own (some b) cap e sz n xs ∈ H) (hn : xs[j]? = some v) : Rd I H ((⟨b, 0, none⟩ : Addr).add j) v := (Rds.own hm).rd hn
theorem Rds.all {b : Nat} {cs : List Value} {T : TypeId} (hm : PK.cel b cs T ∈ H) : Rds I H ⟨b, 0, none⟩ cs := .cel hm (fun j u h => by rw [Nat.zero_add]; exact h)
theorem Rds.allI {b : Nat} {cs : List Value} {T : TypeId} (hm : PK.cel b cs T ∈ I) : Rds I H ⟨b, 0, none⟩ cs := .celI hm (fun j u h => by rw [Nat.zero_add]; exact h)

theorem RL.storeX {b off : Nat} {cs vs cs' : List Value} {T : TypeId} {H' : List It} (he : spl cs off vs = cs') (hs : ∀ w, (sizeOf t).run P w = .ok vs.length w) (ho : nth L i = some ⟨none, .store t x y, ty, pos, af, g⟩) (hw : wants L E ⟨none, .store t x y, ty, pos, af, g⟩ = true)
    (hi : ef.contains i = true) (hb : bk.contains i = true) (hx : E.ev x = some (.pointer (some ⟨b, off, none⟩))) (hy : E.ev y = some v) (hc : v.cells = vs.toArray) (h1 : ones vs = true)
    (hu : Upd H (PK.cel b cs T) (PK.cel b cs' T) H') (hl : off + vs.length ≤ cs.length) (h : RL P L ef bk tq Q l N E w0 S I H') : RL P L ef bk tq Q (.cons i l) N E w0 S I H := by
  subst he
  exact RL.store hs ho hw hi hb hx hy hc h1 (by simpa using hl) hu h

/-- The like, of a slice that is not empty behind its begin. -/
theorem RL.sliceP {e : TypeId} {p : Addr} {len cap sz lo hi : Nat} {ol oh : Option Operand} (hu : ∀ w, (underlying t).run P w = .ok (.slice e) w) (hs : ∀ w, (sizeOf e).run P w = .ok sz w) (ho : nth L i = some ⟨some d, .slice t x ol oh none, ty, pos, af, g⟩) (hw : wants L E ⟨some d, .slice t x ol oh none, ty, pos, af, g⟩ = true) (hN : Nat.blt d N = true)
    (hx : E.ev x = some (.slice (some p) len cap)) (hl : bnd E ol 0 = some (lo : Int)) (hh : bnd E oh len = some (hi : Int)) (h1 : lo ≤ hi) (h2 : hi ≤ cap) (h3 : lo < cap)
    (h : RL P L ef bk tq Q l N ((d, .slice (some (p.add (lo * sz))) (hi - lo) (cap - lo)) :: E) w0 S I H) : RL P L ef bk tq Q (.cons i l) N E w0 S I H :=
  RL.slice hu hs ho hw hN hx hl hh h1 h2 (by rw [if_neg (by omega)]; exact h)

/-- An element's place in a slice that begins within another. -/
theorem RL.idxS {e : TypeId} {p : Addr} {len cap sz j q : Nat} (hu : ∀ w, (underlying t).run P w = .ok (.slice e) w) (hs : ∀ w, (sizeOf e).run P w = .ok sz w) (ho : nth L i = some ⟨some d, .indexAddr t x y, ty, pos, af, g⟩) (hw : wants L E ⟨some d, .indexAddr t x y, ty, pos, af, g⟩ = true) (hN : Nat.blt d N = true)
    (hx : E.ev x = some (.slice (some (p.add q)) len cap)) (hy : E.ev y = some (.int k n)) (hj : n = (j : Int)) (hlt : j < len) (h : RL P L ef bk tq Q l N ((d, .pointer (some (p.add (q + j * sz)))) :: E) w0 S I H) : RL P L ef bk tq Q (.cons i l) N E w0 S I H :=
  RL.idx hu hs ho hw hN hx hy hj hlt (by rw [add_add]; exact h)

theorem reps_one (z : Value) : ∀ n, reps [z] n = List.replicate n z
  | 0 => rfl
  | n + 1 => by simp [reps, reps_one z n, List.replicate_succ]
theorem spl_one {cs : List Value} {j : Nat} {v : Value} (h : j < cs.length) : spl cs j [v] = cs.take j ++ [v] ++ cs.drop (j + 1) := spl_eq _ _ _ (by simp; omega)

theorem spl_snoc {z v : Value} {k : Nat} : ∀ xs : List Value, spl (xs ++ List.replicate (k + 1) z) xs.length [v] = xs ++ [v] ++ List.replicate k z
  | [] => by simp [List.replicate_succ, spl]; cases k <;> rfl
  | a :: xs => by simp [spl, spl_snoc xs]

theorem spl_all : ∀ {cs vs : List Value}, vs.length = cs.length → spl cs 0 vs = vs
  | [], [], _ => rfl
  | c :: cs, v :: vs, h => by simp only [List.length_cons, Nat.add_right_cancel_iff] at h; simp [spl, spl_all h]
  | [], v :: vs, h => by simp at h
  | c :: cs, [], h => by simp at h

/-- One cell more of a list that takes another's place. -/
theorem spl_mix {l1 l2 : List Value} (h : l1.length = l2.length) {n : Nat} {v : Value} (hv : l2[n]? = some v) : spl (l2.take n ++ l1.drop n) (0 + n * 1) [v] = l2.take (n + 1) ++ l1.drop (n + 1) := by
  have hn : n < l2.length := (List.getElem?_eq_some_iff.1 hv).1
  have ht : (l2.take n).length = n := by rw [List.length_take]; omega
  rw [Nat.zero_add, Nat.mul_one, spl_eq _ _ _ (by simp; omega)]
  have e1 : (l2.take n ++ l1.drop n).take n = l2.take n := List.take_left' ht
  have e2 : (l2.take n ++ l1.drop n).drop (n + [v].length) = l1.drop (n + 1) := by
    rw [List.drop_append, ht]
    simp [ht, List.drop_drop]
  rw [e1, e2, List.take_add_one, hv]; simp
theorem get_mix {l1 l2 : List Value} {n : Nat} (hn : n < l2.length) : (l2.take n ++ l1.drop n)[0 + n * 1]? = l1[n]? := by
  have ht : (l2.take n).length = n := by rw [List.length_take]; omega
  rw [Nat.zero_add, Nat.mul_one, List.getElem?_append_right (by omega), ht]; simp

theorem Src.celAt {b off mm sz : Nat} {cs : List Value} {T : TypeId} (hm : PK.cel b cs T ∈ H) (hl : off + mm * sz ≤ cs.length) : Src I H (some ⟨b, off, none⟩) mm sz ((cs.drop off).take (mm * sz)) := fun w hw =>
  ⟨by rw [List.length_take, List.length_drop]; omega, fun h => (by cases h), fun a h j u hj => by
    cases h
    rw [add_none, cell_of_cel (hw.h _ hm)]
    rw [List.getElem?_take] at hj
    split at hj
    · rw [List.getElem?_drop] at hj; exact hj
    · cases hj⟩

theorem ones_map {α : Type} {f : α → Value} (h : ∀ a, (f a).oneCell' = true) : ∀ l : List α, ones (l.map f) = true
  | [] => rfl
  | a :: l => by simp [ones, h a, ones_map h l]
theorem one_map {α : Type} {f : α → Value} (h : ∀ a, (f a).oneCell' = true) (l : List α) : ∀ u ∈ l.map f, u.oneCell' = true := by
  intro u hu
  obtain ⟨a, _, rfl⟩ := List.mem_map.1 hu
  exact h a

end
end Go.PK
