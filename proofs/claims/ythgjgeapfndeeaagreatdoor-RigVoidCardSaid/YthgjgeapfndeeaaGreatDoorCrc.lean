import Derived.Test.YthgjgeapfndeeaaGreatDoorBase0
import Derived.Test.YthgjgeapfndeeaaGreatDoorOwnN
import Derived.Test.YthgjgeapfndeeaaGreatDoorBase
set_option linter.unusedVariables false
set_option linter.unusedSimpArgs false
namespace Go.Proofs.YthgjgeapfndeeaaGreatDoor
open Go.PK
/-! ### Sums of bytes -/
def crcLow : B32 := 3988292384#32
def crcB (r : B32) : B32 := (r >>> 1) ^^^ (crcLow &&& (-(r &&& 1#32)))
def crcN : Nat → B32 → B32
  | 0, r => r
  | n + 1, r => crcB (crcN n r)
def crcX (r : B32) (x : B8) : B32 := crcN 8 (r ^^^ x.setWidth 32)
def crcA (r : B32) (l : List B8) : B32 := l.foldl crcX r
theorem and_one (r : B32) : (r &&& 1#32).toNat = r.toNat % 2 := by
  rw [BitVec.toNat_and]
  exact Nat.and_one_is_mod _
theorem crc_odd {r : B32} (h : r % 2#32 = 1#32) : (r / 2#32) ^^^ crcLow = crcB r := by
  have h2 : r.toNat % 2 = 1 := by have := congrArg BitVec.toNat h; simpa using this
  have h1 : r &&& 1#32 = 1#32 := BitVec.eq_of_toNat_eq (by rw [and_one, h2]; rfl)
  have h3 : r / 2#32 = r >>> 1 := BitVec.eq_of_toNat_eq (by simp [BitVec.toNat_udiv, Nat.shiftRight_eq_div_pow])
  rw [crcB, h1, h3]
  congr 1
theorem crc_even {r : B32} (h : r % 2#32 ≠ 1#32) : r / 2#32 = crcB r := by
  have h2 : r.toNat % 2 = 0 := by
    rcases Nat.mod_two_eq_zero_or_one r.toNat with h0 | h0
    · exact h0
    · exact absurd (BitVec.eq_of_toNat_eq (by simpa using h0)) h
  have h1 : r &&& 1#32 = 0#32 := BitVec.eq_of_toNat_eq (by rw [and_one, h2]; rfl)
  have h3 : r / 2#32 = r >>> 1 := BitVec.eq_of_toNat_eq (by simp [BitVec.toNat_udiv, Nat.shiftRight_eq_div_pow])
  rw [crcB, h1, h3]
  have : crcLow &&& (-(0#32)) = 0#32 := by decide
  rw [this, BitVec.xor_zero]
theorem crcA_snoc (r : B32) (l : List B8) (x : B8) : crcA r (l ++ [x]) = crcX (crcA r l) x := by simp [crcA]
theorem crcA_take {l : List B8} {i : Nat} {x : B8} (h : l[i]? = some x) (r : B32) : crcA r (l.take (i + 1)) = crcX (crcA r (l.take i)) x := by
  rw [List.take_add_one, h]; exact crcA_snoc _ _ _
theorem neg32 (a : B32) : Value.int .u32 (IntKind.u32.wrap (0 - (a.toNat : Int))) = U32 (-a) := by
  rw [U32, u32_wrap, Int.zero_sub, BitVec.ofInt_neg, BitVec.ofInt_natCast, BitVec.ofNat_toNat]; simp
theorem cadd_any (r : B32) (p : Option Addr) (c n : Nat) (l : List B8) (hn : l.length = n) (hb : n ≤ 1000000) : Spc Tryz.prog 424 #[U32 r, .slice p n c] [sls p 1 n (bytes l)] [] (Is (U32 (crcA r l))) := by
  subst hn
  refine Spc.enter Tryz.func424 rfl rfl rfl (fun w0 hw0 => ?_)
  refine CW.seq (CW.rg (RL.p rfl (RL.nil (NQ.seq (CW.seq (CW.seq (CW.rg (RL.p rfl (RL.lenS Tryz.runUnderlying22 rfl rfl rfl rfl (RL.p rfl (RL.nil (NQ.seq (CW.block ?_)))))))))))))
  refine CW.genI (fun J hJ => ?_)
  have m2 : sls p 1 l.length (bytes l) ∈ J := hJ _ (by simp)
  clear hJ
  refine CW.loop (γ := Nat) (fun i => i ≤ l.length) (fun i => [(0, U32 (crcA r (l.take i))), (8, .slice p l.length c), (9, .int .i64 (l.length : Int)), (10, .int .i64 (i : Int))]) (fun _ => J) (fun _ => []) (fun i => l.length - i) 0 (Nat.zero_le _) (.cons rfl (.cons rfl (.cons rfl (.cons rfl .nil)))) (fun w h => h.rea (fun _ h => h) (by repeat (first | exact Rea.nil | (apply Rea.cons; (solve | (repeat (first | exact Del.here | apply Del.there))))))) ?_
  intro i hi
  refine CW.fact (p := p = none → l.length = 0) (fun w hC e => sls_nil (hC.s.i _ m2) e) (fun hpa => ?_)
  refine CW.seq (CW.rg (RL.p rfl (RL.nil (NQ.seq (CW.seq ?_)))))
  refine CW.cond rfl (fun hlt => ?_) (fun hlt => ?_)
  ·
    have hlt : i < l.length := by simp at hlt; omega
    cases p with
    | none => exact absurd (hpa rfl) (by omega)
    | some a =>
    have hx := List.getElem?_eq_getElem hlt
    have htk := fun r => crcA_take (r := r) hx
    generalize l[i] = x at hx htk
    have f1 : RdI J (a.add (i * 1)) (U8 x) := ⟨fun _ => by
      rw [Nat.mul_one]
      exact Rds.rd (Rds.sls m2) (by rw [List.getElem?_map, hx]; rfl)⟩
    refine CW.skip (NQ.seq (CW.seq (CW.block (CW.seq (CW.rg ?_)))))
    first | refine RL.idxAt (j := i) Tryz.runUnderlying22 Tryz.sizeOf5 rfl rfl rfl rfl rfl rfl (hlt) ?_ | refine RL.idx (j := i) Tryz.runUnderlying22 Tryz.sizeOf5 rfl rfl rfl rfl rfl rfl (hlt) ?_
    refine RL.loadq Tryz.isAgg5 rfl rfl rfl rfl ?_
    refine RL.p rfl (RL.nil (NQ.seq (CW.seq (CW.rg (RL.p rfl (RL.p rfl (RL.widen Tryz.runUnderlying5 Tryz.runUnderlying90 rfl rfl rfl rfl (RL.bv32 (a := _) (b := _) xor32 rfl rfl rfl rfl rfl ?_))))))))
    refine RL.p rfl (RL.nil (NQ.seq (CW.ok [0, 8, 9, 10] rfl (CW.seq (CW.rg (RL.p rfl (RL.nil (NQ.seq (CW.block (CW.loop (γ := Nat) (fun k => k ≤ 8) (fun k => [(0, U32 (crcN k (crcA r (l.take i) ^^^ x.setWidth 32))), (8, .slice (some a) l.length c), (9, .int .i64 (l.length : Int)), (10, .int .i64 (i : Int)), (18, .int .i64 (k : Int))]) (fun _ => J) (fun _ => []) (fun k => 8 - k) 0 (Nat.zero_le _) (.cons rfl (.cons rfl (.cons rfl (.cons rfl (.cons rfl .nil))))) (fun w h => h.rea (fun _ h => h) (by repeat (first | exact Rea.nil | (apply Rea.cons; (solve | (repeat (first | exact Del.here | apply Del.there))))))) ?_))))))))))
    intro k hk
    generalize hs : crcN k (crcA r (l.take i) ^^^ x.setWidth 32) = s
    refine CW.seq (CW.rg (RL.p rfl (RL.nil (NQ.seq (CW.seq ?_)))))
    refine CW.cond rfl (fun hk8 => ?_) (fun hk8 => ?_)
    ·
      refine CW.skip (NQ.seq (CW.seq (CW.block (CW.seq (CW.rg (RL.p rfl (RL.bv32 (a := _) (b := 1#32) and32 rfl rfl rfl rfl rfl ?_)))))))
      refine RL.neg rfl rfl rfl rfl (RL.cast (d := 22) rfl (neg32 _) ?_)
      refine RL.p rfl (RL.nil (NQ.seq (CW.rg (RL.p rfl (RL.shr32 1 rfl rfl rfl rfl rfl (by decide) (by decide) ?_)))))
      refine RL.p rfl (RL.bv32 (a := 3988292384#32) (b := _) and32 rfl rfl rfl rfl rfl ?_)
      refine RL.bv32 (a := _) (b := _) xor32 rfl rfl rfl rfl rfl ?_
      refine RL.p rfl (RL.nil (NQ.block (NQ.seq (CW.ok [0, 8, 9, 10, 18] rfl (CW.rg (RL.bx rfl (wrapV_i64 (by omega) (by omega)) ?_))))))
      refine RL.p rfl (RL.nil ?_)
      have hk8 : k < 8 := by simp at hk8; omega
      refine NQ.round (g := k) (k + 1) hk8 (by show 8 - (k + 1) < 8 - k; omega) (.cons (by rw [crcN, hs]; rfl) (.cons rfl (.cons rfl (.cons rfl (.cons rfl .nil))))) (fun w h => h.rea (fun _ h => h) (by repeat (first | exact Rea.nil | (apply Rea.cons; (solve | (repeat (first | exact Del.here | apply Del.there)))))))
    ·
      refine CW.exit (XQ.seq (XQ.seq (XQ.hit (NQ.block (NQ.seq (CW.rg (RL.bx rfl (wrapV_i64 (by omega) (by omega)) ?_)))))))
      refine RL.p rfl (RL.nil ?_)
      have hk8 : k = 8 := by simp at hk8; omega
      subst hk8
      refine NQ.round (g := i) (i + 1) hlt (by show l.length - (i + 1) < l.length - i; omega) (.cons (by rw [htk, crcX, hs]; rfl) (.cons rfl (.cons rfl (.cons rfl .nil)))) (fun w h => h.rea (fun _ h => h) (by repeat (first | exact Rea.nil | (apply Rea.cons; (solve | (repeat (first | exact Del.here | apply Del.there)))))))
  ·
    refine CW.exit (XQ.seq (XQ.seq (XQ.hit (NQ.seq (CW.seq (CW.rg (RL.p rfl (RL.p rfl (RL.nil (NQ.seq (CW.ok [4] rfl (CW.ret ?_))))))))))))
    have hin : i = l.length := by simp at hlt; omega
    subst hin
    exact RQ.post (res1 rfl rfl) (Split.none _) ⟨by rw [List.take_length], rfl, rfl⟩
theorem radd11 (r : B32) (p : Option Addr) (c n : Nat) (l : List B8) (hn : l.length = n) (hb : n ≤ 1000000) : Spc Tryz.prog 273 #[U32 r, .slice p n c] [sls p 1 n (bytes l)] [] (Is (U32 (crcA r l))) := by
  subst hn
  refine Spc.enter Tryz.func273 rfl rfl rfl (fun w0 hw0 => ?_)
  refine CW.seq (CW.rg (RL.p rfl (RL.nil (NQ.seq (CW.seq (CW.seq (CW.rg (RL.p rfl (RL.nil (NQ.seq (CW.block ?_)))))))))))
  refine CW.genI (fun J hJ => ?_)
  have m2 : sls p 1 l.length (bytes l) ∈ J := hJ _ (by simp)
  clear hJ
  refine CW.loop (γ := Nat) (fun i => i ≤ l.length) (fun i => [(0, U32 (crcA r (l.take i))), (1, .slice p l.length c), (5, .int .i64 (i : Int))]) (fun _ => J) (fun _ => []) (fun i => l.length - i) 0 (Nat.zero_le _) (.cons rfl (.cons rfl (.cons rfl .nil))) (fun w h => h.rea (fun _ h => h) (by repeat (first | exact Rea.nil | (apply Rea.cons; (solve | (repeat (first | exact Del.here | apply Del.there))))))) ?_
  intro i hi
  refine CW.fact (p := p = none → l.length = 0) (fun w hC e => sls_nil (hC.s.i _ m2) e) (fun hpa => ?_)
  refine CW.seq (CW.seq (CW.rg (RL.p rfl (RL.p rfl (RL.lenS Tryz.runUnderlying22 rfl rfl rfl rfl (RL.p rfl (RL.nil (NQ.seq ?_))))))))
  refine CW.cond rfl (fun hlt => ?_) (fun hlt => ?_)
  ·
    have hlt : i < l.length := by simp at hlt; omega
    cases p with
    | none => exact absurd (hpa rfl) (by omega)
    | some a =>
    have hx := List.getElem?_eq_getElem hlt
    have htk := fun r => crcA_take (r := r) hx
    generalize l[i] = x at hx htk
    have f1 : RdI J (a.add (i * 1)) (U8 x) := ⟨fun _ => by
      rw [Nat.mul_one]
      exact Rds.rd (Rds.sls m2) (by rw [List.getElem?_map, hx]; rfl)⟩
    refine CW.skip (NQ.seq (CW.seq (CW.block (CW.seq (CW.rg (RL.p rfl (RL.p rfl (RL.p rfl ?_))))))))
    first | refine RL.idxAt (j := i) Tryz.runUnderlying22 Tryz.sizeOf5 rfl rfl rfl rfl rfl rfl (hlt) ?_ | refine RL.idx (j := i) Tryz.runUnderlying22 Tryz.sizeOf5 rfl rfl rfl rfl rfl rfl (hlt) ?_
    refine RL.loadq Tryz.isAgg5 rfl rfl rfl rfl ?_
    refine RL.widen Tryz.runUnderlying5 Tryz.runUnderlying90 rfl rfl rfl rfl (RL.bv32 (a := _) (b := _) xor32 rfl rfl rfl rfl rfl ?_)
    refine RL.p rfl (RL.nil (NQ.seq (CW.ok [0, 1, 5] rfl (CW.seq (CW.rg (RL.p rfl (RL.nil (NQ.seq (CW.block (CW.loop (γ := Nat) (fun k => k ≤ 8) (fun k => [(0, U32 (crcN k (crcA r (l.take i) ^^^ x.setWidth 32))), (1, .slice (some a) l.length c), (5, .int .i64 (i : Int)), (6, .int .i64 (k : Int))]) (fun _ => J) (fun _ => []) (fun k => 8 - k) 0 (Nat.zero_le _) (.cons rfl (.cons rfl (.cons rfl (.cons rfl .nil)))) (fun w h => h.rea (fun _ h => h) (by repeat (first | exact Rea.nil | (apply Rea.cons; (solve | (repeat (first | exact Del.here | apply Del.there))))))) ?_))))))))))
    intro k hk
    generalize hs : crcN k (crcA r (l.take i) ^^^ x.setWidth 32) = s
    refine CW.seq (CW.seq (CW.rg (RL.p rfl (RL.p rfl (RL.nil (NQ.seq ?_))))))
    refine CW.cond rfl (fun hk8 => ?_) (fun hk8 => ?_)
    ·
      refine CW.skip (NQ.seq (CW.seq (CW.block (CW.seq (CW.rg (RL.p rfl (RL.rem32 (2#32) rfl rfl rfl rfl rfl (by decide) ?_)))))))
      refine RL.p rfl (RL.nil (NQ.seq (CW.seq (CW.rg (RL.p rfl (RL.quo32 (2#32) rfl rfl rfl rfl rfl (by decide) ?_))))))
      refine RL.p rfl (RL.nil (NQ.seq (CW.ok [0, 1, 5, 6, 7] rfl (CW.seq (CW.rg (RL.p rfl (RL.p rfl (RL.nil (NQ.seq ?_)))))))))
      have hk8 : k < 8 := by simp at hk8; omega
      refine CW.cond rfl (fun ho => ?_) (fun ho => ?_)
      ·
        refine CW.rg (RL.p rfl (RL.bv32 (a := _) (b := 3988292384#32) xor32 rfl rfl rfl rfl rfl ?_))
        refine RL.p rfl (RL.nil (NQ.block (NQ.seq (CW.rg (RL.p rfl (RL.bx rfl (wrapV_i64 (by omega) (by omega)) ?_))))))
        refine RL.p rfl (RL.nil ?_)
        have ho : s % 2#32 = 1#32 := by
          have h2 : ((s % 2#32).toNat : Int) = ((1#32 : B32).toNat : Int) := by simpa using ho
          exact BitVec.eq_of_toNat_eq (by omega)
        have hc := crc_odd ho
        exact NQ.round (g := k) (k + 1) hk8 (by show 8 - (k + 1) < 8 - k; omega) (.cons (by rw [crcN, hs, ← hc]; rfl) (.cons rfl (.cons rfl (.cons rfl .nil)))) (fun w h => h.rea (fun _ h => h) (by repeat (first | exact Rea.nil | (apply Rea.cons; (solve | (repeat (first | exact Del.here | apply Del.there)))))))
      ·
        refine CW.skip (NQ.block (NQ.seq (CW.rg (RL.p rfl (RL.bx rfl (wrapV_i64 (by omega) (by omega)) ?_)))))
        refine RL.p rfl (RL.nil ?_)
        have ho : s % 2#32 ≠ 1#32 := fun h => by
          have h2 : ¬ ((s % 2#32).toNat : Int) = ((1#32 : B32).toNat : Int) := by simpa using ho
          exact h2 (by rw [h])
        have hc := crc_even ho
        exact NQ.round (g := k) (k + 1) hk8 (by show 8 - (k + 1) < 8 - k; omega) (.cons (by rw [crcN, hs, ← hc]; rfl) (.cons rfl (.cons rfl (.cons rfl .nil)))) (fun w h => h.rea (fun _ h => h) (by repeat (first | exact Rea.nil | (apply Rea.cons; (solve | (repeat (first | exact Del.here | apply Del.there)))))))
    ·
      refine CW.exit (XQ.seq (XQ.seq (XQ.hit (NQ.block (NQ.seq (CW.rg (RL.p rfl (RL.bx rfl (wrapV_i64 (by omega) (by omega)) ?_))))))))
      refine RL.p rfl (RL.nil ?_)
      have hk8 : k = 8 := by simp at hk8; omega
      subst hk8
      refine NQ.round (g := i) (i + 1) hlt (by show l.length - (i + 1) < l.length - i; omega) (.cons (by rw [htk, crcX, hs]; rfl) (.cons rfl (.cons rfl .nil))) (fun w h => h.rea (fun _ h => h) (by repeat (first | exact Rea.nil | (apply Rea.cons; (solve | (repeat (first | exact Del.here | apply Del.there)))))))
  ·
    refine CW.exit (XQ.seq (XQ.seq (XQ.hit (NQ.seq (CW.ok [0] rfl (CW.seq (CW.rg (RL.p rfl (RL.p rfl (RL.nil (NQ.seq (CW.ret ?_))))))))))))
    have hin : i = l.length := by simp at hlt; omega
    subst hin
    exact RQ.post (res1 rfl rfl) (Split.none _) ⟨by rw [List.take_length], rfl, rfl⟩
end Go.Proofs.YthgjgeapfndeeaaGreatDoor
