import Derived.Test.YtkineolcmdecjaaGreatBase0
import Derived.Test.YtkineolcmdecjaaGreatOwnN
import Derived.Test.YtkineolcmdecjaaGreatFA
import Derived.Test.YtkineolcmdecjaaGreatBase
import Derived.Test.YtkineolcmdecjaaGreatFrO
import Derived.Test.YtkineolcmdecjaaGreatS0
import Derived.Test.YtkineolcmdecjaaGreatPD
namespace Go.Proofs.YtkineolcmdecjaaGreat
open Go.PK
/-! ### Sums of bytes -/
def crcLow : B32 := 3988292384#32
def crcB (r : B32) : B32 := (r >>> 1) ^^^ (crcLow &&& (-(r &&& 1#32)))
def crcN : Nat → B32 → B32
  | 0, r => r
  | n + 1, r => crcB (crcN n r)
def crcX (r : B32) (x : B8) : B32 := crcN 8 (r ^^^ x.setWidth 32)
def crcA (r : B32) (l : List B8) : B32 := l.foldl crcX r
def crcOf (l : List B8) : B32 := ~~~ (crcA (~~~ 0#32) l)
def crcS (s : B32) : List B8 := [s.setWidth 8, (s >>> 8).setWidth 8, (s >>> 16).setWidth 8, (s >>> 24).setWidth 8]
def crcPut (l : List B8) : List B8 := l ++ crcS (crcOf l)
theorem and_one (r : B32) : (r &&& 1#32).toNat = r.toNat % 2 := by
  rw [BitVec.toNat_and]
  exact Nat.and_one_is_mod _
theorem crc_odd {r : B32} (h : r % 2#32 = 1#32) : (r / 2#32) ^^^ crcLow = crcB r := by
  have h2 : r.toNat % 2 = 1 := by have := congrArg BitVec.toNat h; simpa using this
  have h1 : r &&& 1#32 = 1#32 := BitVec.eq_of_toNat_eq (by rw [and_one, h2]; rfl)
  have h3 : r / 2#32 = r >>> 1 := BitVec.eq_of_toNat_eq (by simp [BitVec.toNat_udiv, Nat.shiftRight_eq_div_pow])
  rw [crcB, h1, h3]
  congr 1
theorem crc_even {r : B32} (h : r % 2#32 ≠ 1#32) : r / 2#32 = crcB r := by
  have h2 : r.toNat % 2 = 0 := by
    rcases Nat.mod_two_eq_zero_or_one r.toNat with h0 | h0
    · exact h0
    · exact absurd (BitVec.eq_of_toNat_eq (by simpa using h0)) h
  have h1 : r &&& 1#32 = 0#32 := BitVec.eq_of_toNat_eq (by rw [and_one, h2]; rfl)
  have h3 : r / 2#32 = r >>> 1 := BitVec.eq_of_toNat_eq (by simp [BitVec.toNat_udiv, Nat.shiftRight_eq_div_pow])
  rw [crcB, h1, h3]
  have : crcLow &&& (-(0#32)) = 0#32 := by decide
  rw [this, BitVec.xor_zero]
theorem crcA_snoc (r : B32) (l : List B8) (x : B8) : crcA r (l ++ [x]) = crcX (crcA r l) x := by simp [crcA]
theorem crcA_take {l : List B8} {i : Nat} {x : B8} (h : l[i]? = some x) (r : B32) : crcA r (l.take (i + 1)) = crcX (crcA r (l.take i)) x := by
  rw [List.take_add_one, h]; exact crcA_snoc _ _ _
theorem crcPut_len (l : List B8) : (crcPut l).length = l.length + 4 := by simp [crcPut, crcS]
theorem neg32 (a : B32) : Value.int .u32 (IntKind.u32.wrap (0 - (a.toNat : Int))) = U32 (-a) := by
  rw [U32, u32_wrap, Int.zero_sub, BitVec.ofInt_neg, BitVec.ofInt_natCast, BitVec.ofNat_toNat]; simp
theorem sub_inv (a : B32) : Value.int .u32 (IntKind.u32.wrap (4294967295 - (a.toNat : Int))) = U32 (~~~a) := by
  have h := a.isLt
  have h2 : (~~~a).toNat = 4294967295 - a.toNat := by rw [BitVec.toNat_not]
  rw [U32, h2]
  congr 1
  simp [IntKind.wrap, IntKind.bits, IntKind.signed]
  omega
theorem crcS_ref (s : B32) : [(s % 256#32).setWidth 8, (s / 256#32 % 256#32).setWidth 8, (s / 65536#32 % 256#32).setWidth 8, (s / 16777216#32).setWidth 8] = crcS s := by
  have e0 : (s % 256#32).setWidth 8 = s.setWidth 8 := BitVec.eq_of_toNat_eq (by simp)
  have e1 : (s / 256#32 % 256#32).setWidth 8 = (s >>> 8).setWidth 8 := BitVec.eq_of_toNat_eq (by simp [Nat.shiftRight_eq_div_pow])
  have e2 : (s / 65536#32 % 256#32).setWidth 8 = (s >>> 16).setWidth 8 := BitVec.eq_of_toNat_eq (by simp [Nat.shiftRight_eq_div_pow])
  have e3 : (s / 16777216#32).setWidth 8 = (s >>> 24).setWidth 8 := BitVec.eq_of_toNat_eq (by simp [Nat.shiftRight_eq_div_pow])
  rw [e0, e1, e2, e3, crcS]
theorem cadd_any (r : B32) (p : Option Addr) (c n : Nat) (l : List B8) (hn : l.length = n) (hb : n ≤ 1000000) : Spc Tryz.prog 218 #[U32 r, .slice p n c] [sls p 1 n (bytes l)] [] (Is (U32 (crcA r l))) := by
  subst hn
  refine Spc.enter Tryz.func218 rfl rfl rfl (fun w0 hw0 => ?_)
  refine CW.seq (CW.rg (RL.p rfl (RL.nil (NQ.seq (CW.seq (CW.seq (CW.rg (RL.p rfl (RL.lenS Tryz.runUnderlying74 rfl rfl rfl rfl (RL.p rfl (RL.nil (NQ.seq (CW.block ?_)))))))))))))
  refine CW.genI (fun J hJ => ?_)
  have m2 : sls p 1 l.length (bytes l) ∈ J := hJ _ (by simp)
  clear hJ
  refine CW.loop (γ := Nat) (fun i => i ≤ l.length) (fun i => [(0, U32 (crcA r (l.take i))), (8, .slice p l.length c), (9, .int .i64 (l.length : Int)), (10, .int .i64 (i : Int))]) (fun _ => J) (fun _ => []) (fun i => l.length - i) 0 (Nat.zero_le _) (.cons rfl (.cons rfl (.cons rfl (.cons rfl .nil)))) (fun w h => h.rea (fun _ h => h) (by repeat (first | exact Rea.nil | (apply Rea.cons; (solve | (repeat (first | exact Del.here | apply Del.there))))))) ?_
  intro i hi
  refine CW.fact (p := p = none → l.length = 0) (fun w hC e => sls_nil (hC.s.i _ m2) e) (fun hpa => ?_)
  refine CW.seq (CW.rg (RL.p rfl (RL.nil (NQ.seq (CW.seq ?_)))))
  refine CW.cond rfl (fun hlt => ?_) (fun hlt => ?_)
  ·
    have hlt : i < l.length := by simp at hlt; omega
    cases p with
    | none => exact absurd (hpa rfl) (by omega)
    | some a =>
    have hx := List.getElem?_eq_getElem hlt
    have htk := fun r => crcA_take (r := r) hx
    generalize l[i] = x at hx htk
    have f1 : RdI J (a.add (i * 1)) (U8 x) := ⟨fun _ => by
      rw [Nat.mul_one]
      exact Rds.rd (Rds.sls m2) (by rw [List.getElem?_map, hx]; rfl)⟩
    refine CW.skip (NQ.seq (CW.seq (CW.block (CW.seq (CW.rg ?_)))))
    first | refine RL.idxAt (j := i) Tryz.runUnderlying74 Tryz.sizeOf5 rfl rfl rfl rfl rfl rfl (hlt) ?_ | refine RL.idx (j := i) Tryz.runUnderlying74 Tryz.sizeOf5 rfl rfl rfl rfl rfl rfl (hlt) ?_
    refine RL.loadq Tryz.isAgg5 rfl rfl rfl rfl ?_
    refine RL.p rfl (RL.nil (NQ.seq (CW.seq (CW.rg (RL.p rfl (RL.p rfl (RL.widen Tryz.runUnderlying5 Tryz.runUnderlying61 rfl rfl rfl rfl (RL.bv32 (a := _) (b := _) xor32 rfl rfl rfl rfl rfl ?_))))))))
    refine RL.p rfl (RL.nil (NQ.seq (CW.ok [0, 8, 9, 10] rfl (CW.seq (CW.rg (RL.p rfl (RL.nil (NQ.seq (CW.block (CW.loop (γ := Nat) (fun k => k ≤ 8) (fun k => [(0, U32 (crcN k (crcA r (l.take i) ^^^ x.setWidth 32))), (8, .slice (some a) l.length c), (9, .int .i64 (l.length : Int)), (10, .int .i64 (i : Int)), (18, .int .i64 (k : Int))]) (fun _ => J) (fun _ => []) (fun k => 8 - k) 0 (Nat.zero_le _) (.cons rfl (.cons rfl (.cons rfl (.cons rfl (.cons rfl .nil))))) (fun w h => h.rea (fun _ h => h) (by repeat (first | exact Rea.nil | (apply Rea.cons; (solve | (repeat (first | exact Del.here | apply Del.there))))))) ?_))))))))))
    intro k hk
    generalize hs : crcN k (crcA r (l.take i) ^^^ x.setWidth 32) = s
    refine CW.seq (CW.rg (RL.p rfl (RL.nil (NQ.seq (CW.seq ?_)))))
    refine CW.cond rfl (fun hk8 => ?_) (fun hk8 => ?_)
    ·
      refine CW.skip (NQ.seq (CW.seq (CW.block (CW.seq (CW.rg (RL.p rfl (RL.bv32 (a := _) (b := 1#32) and32 rfl rfl rfl rfl rfl ?_)))))))
      refine RL.neg rfl rfl rfl rfl (RL.cast (d := 22) rfl (neg32 _) ?_)
      refine RL.p rfl (RL.nil (NQ.seq (CW.rg (RL.p rfl (RL.shr32 1 rfl rfl rfl rfl rfl (by decide) (by decide) ?_)))))
      refine RL.p rfl (RL.bv32 (a := 3988292384#32) (b := _) and32 rfl rfl rfl rfl rfl ?_)
      refine RL.bv32 (a := _) (b := _) xor32 rfl rfl rfl rfl rfl ?_
      refine RL.p rfl (RL.nil (NQ.block (NQ.seq (CW.ok [0, 8, 9, 10, 18] rfl (CW.rg (RL.bx rfl (wrapV_i64 (by omega) (by omega)) ?_))))))
      refine RL.p rfl (RL.nil ?_)
      have hk8 : k < 8 := by simp at hk8; omega
      refine NQ.round (g := k) (k + 1) hk8 (by show 8 - (k + 1) < 8 - k; omega) (.cons (by rw [crcN, hs]; rfl) (.cons rfl (.cons rfl (.cons rfl (.cons rfl .nil))))) (fun w h => h.rea (fun _ h => h) (by repeat (first | exact Rea.nil | (apply Rea.cons; (solve | (repeat (first | exact Del.here | apply Del.there)))))))
    ·
      refine CW.exit (XQ.seq (XQ.seq (XQ.hit (NQ.block (NQ.seq (CW.rg (RL.bx rfl (wrapV_i64 (by omega) (by omega)) ?_)))))))
      refine RL.p rfl (RL.nil ?_)
      have hk8 : k = 8 := by simp at hk8; omega
      subst hk8
      refine NQ.round (g := i) (i + 1) hlt (by show l.length - (i + 1) < l.length - i; omega) (.cons (by rw [htk, crcX, hs]; rfl) (.cons rfl (.cons rfl (.cons rfl .nil)))) (fun w h => h.rea (fun _ h => h) (by repeat (first | exact Rea.nil | (apply Rea.cons; (solve | (repeat (first | exact Del.here | apply Del.there)))))))
  ·
    refine CW.exit (XQ.seq (XQ.seq (XQ.hit (NQ.seq (CW.seq (CW.rg (RL.p rfl (RL.p rfl (RL.nil (NQ.seq (CW.ok [4] rfl (CW.ret ?_))))))))))))
    have hin : i = l.length := by simp at hlt; omega
    subst hin
    exact RQ.post (res1 rfl rfl) (Split.none _) ⟨by rw [List.take_length], rfl, rfl⟩
def crcK (l : List B8) (i : Nat) : B32 := crcA (~~~ 0#32) (if i = 0 then [] else l)
theorem cof_one (b : Nat) (p : Option Addr) (c n : Nat) (l : List B8) (hn : l.length = n) (hb : n ≤ 1000000) : Spc Tryz.prog 201 #[.slice (some ⟨b, 0, none⟩) 1 1] [sls (some ⟨b, 0, none⟩) 1 1 [.slice p n c], sls p 1 n (bytes l)] [] (Is (U32 (crcOf l))) := by
  subst hn
  refine Spc.enter Tryz.func201 rfl rfl rfl (fun w0 hw0 => ?_)
  refine CW.seq (CW.rg (RL.p rfl (RL.nil (NQ.seq (CW.seq (CW.rg (RL.p rfl (RL.nil (NQ.seq (CW.seq (CW.seq (CW.rg (RL.p rfl ?_)))))))))))))
  refine RL.lenS Tryz.runUnderlying161 rfl rfl rfl rfl (RL.p rfl (RL.nil (NQ.seq (CW.block ?_))))
  refine CW.genI (fun J hJ => ?_)
  have m1 : sls (some ⟨b, 0, none⟩) 1 1 [.slice p l.length c] ∈ J := hJ _ (by simp)
  have m2 : sls p 1 l.length (bytes l) ∈ J := hJ _ (by simp)
  clear hJ
  refine CW.loop (γ := Nat) (fun i => i ≤ 1) (fun i => [(3, U32 (crcK l i)), (6, .slice (some ⟨b, 0, none⟩) 1 1), (7, .int .i64 1), (8, .int .i64 (i : Int))]) (fun _ => J) (fun _ => []) (fun i => 1 - i) 0 (Nat.zero_le _) (.cons rfl (.cons rfl (.cons rfl (.cons rfl .nil)))) (fun w h => h.rea (fun _ h => h) (by repeat (first | exact Rea.nil | (apply Rea.cons; (solve | (repeat (first | exact Del.here | apply Del.there))))))) ?_
  intro i hi
  refine CW.seq (CW.rg (RL.p rfl (RL.nil (NQ.seq (CW.seq ?_)))))
  refine CW.cond rfl (fun hlt => ?_) (fun hlt => ?_)
  ·
    obtain rfl : i = 0 := by simp at hlt; omega
    have f1 : RdI J ⟨b, 0 + 0 * 1, none⟩ (.slice p l.length c) := ⟨fun _ => Rds.rd (p := ⟨b, 0, none⟩) (j := 0) (Rds.sls m1) rfl⟩
    refine CW.skip (NQ.seq (CW.seq (CW.block (CW.seq (CW.rg ?_)))))
    first | refine RL.idxAt (j := 0) Tryz.runUnderlying161 Tryz.sizeOf74 rfl rfl rfl rfl rfl rfl ((by decide)) ?_ | refine RL.idx (j := 0) Tryz.runUnderlying161 Tryz.sizeOf74 rfl rfl rfl rfl rfl rfl ((by decide)) ?_
    refine RL.loadq Tryz.isAgg74 rfl rfl rfl rfl ?_
    refine RL.p rfl (RL.nil (NQ.seq (CW.rg (RL.p rfl (RL.p rfl (RL.callv (cadd_any (crcK l 0) p c _ l rfl hb) Tryz.call218 rfl rfl rfl rfl (.inI m2 .nil) (RL.p rfl (RL.nil (NQ.block (NQ.seq (CW.ok [3, 6, 7, 8] rfl (CW.rg (RL.bx rfl (wrapV_i64 (by omega) (by omega)) ?_)))))))))))))
    refine RL.p rfl (RL.nil ?_)
    refine NQ.round (g := 0) 1 (by decide) (by decide) (.cons rfl (.cons rfl (.cons rfl (.cons rfl .nil)))) (fun w h => h.rea (fun _ h => h) (by repeat (first | exact Rea.nil | (apply Rea.cons; (solve | (repeat (first | exact Del.here | apply Del.there)))))))
  ·
    refine CW.exit (XQ.seq (XQ.seq (XQ.hit (NQ.seq (CW.seq (CW.rg (RL.p rfl (RL.inv32 rfl rfl rfl rfl (RL.p rfl (RL.nil (NQ.seq (CW.ok [2] rfl (CW.ret ?_)))))))))))))
    obtain rfl : i = 1 := by simp at hlt; omega
    exact RQ.post (res1 rfl rfl) (Split.none _) ⟨rfl, rfl, rfl⟩
theorem csum_any (p : Option Addr) (c n : Nat) (l : List B8) (hn : l.length = n) (hb : n ≤ 1000000) : Spc Tryz.prog 180 #[.slice p n c] [sls p 1 n (bytes l)] [] (Is (.agg (bytes (crcS (crcOf l))).toArray)) := by
  refine Spc.enter Tryz.func180 rfl rfl rfl (fun w0 hw0 => ?_)
  refine CW.seq (CW.region (ef := [0]) (bk := []) (RL.alloc Tryz.zeroValue318 rfl rfl rfl rfl rfl ?_))
  intro b1
  refine RL.nil (NQ.seq (CW.seq (CW.region (ef := [1]) (bk := []) (RL.p rfl (RL.buildSlice [_] Tryz.runUnderlying161 Tryz.sizeOf74 Tryz.zeroValue74 rfl rfl (by decide) (by decide) rfl rfl rfl rfl rfl rfl ?_)))))
  intro b2
  refine RL.callv (cof_one b2 p c n l hn hb) Tryz.call201 rfl rfl rfl rfl (Lend.all (by repeat (first | exact List.Mem.head _ | apply List.Mem.tail)) rfl (.inI (List.Mem.head _) .nil)) ?_
  refine RL.p rfl (RL.nil (NQ.seq (CW.seq (CW.region (ef := [12]) (bk := [12]) (RL.p rfl (RL.narrow Tryz.runUnderlying61 Tryz.runUnderlying5 rfl rfl rfl rfl (RL.p rfl (RL.shr32 8 rfl rfl rfl rfl rfl (by decide) (by decide) ?_))))))))
  refine RL.narrow Tryz.runUnderlying61 Tryz.runUnderlying5 rfl rfl rfl rfl (RL.p rfl (RL.shr32 16 rfl rfl rfl rfl rfl (by decide) (by decide) ?_))
  refine RL.narrow Tryz.runUnderlying61 Tryz.runUnderlying5 rfl rfl rfl rfl (RL.p rfl (RL.shr32 24 rfl rfl rfl rfl rfl (by decide) (by decide) ?_))
  refine RL.narrow Tryz.runUnderlying61 Tryz.runUnderlying5 rfl rfl rfl rfl (RL.buildA (bytes (crcS (crcOf l))) Tryz.zeroValue318 Tryz.runUnderlying318 Tryz.sizeOf5 rfl rfl rfl rfl rfl (RL.store (vs := [_, _, _, _]) Tryz.sizeOf318 rfl rfl rfl rfl rfl rfl rfl rfl rfl (by repeat (first | exact Upd.here | apply Upd.there)) ?_))
  refine RL.nil (NQ.seq (CW.ok [2] rfl (CW.ret ?_)))
  exact RQ.post (resW rfl rfl Tryz.isAgg318 Tryz.sizeOf318 (by repeat (first | exact List.Mem.head _ | apply List.Mem.tail)) rfl) (Split.none _) ⟨rfl, rfl, rfl⟩
theorem cput_any (p : Option Addr) (c n : Nat) (l : List B8) (hn : l.length = n) (hb : n ≤ 900000) : Spc Tryz.prog 149 #[.slice p n c] [sls p 1 n (bytes l)] [] (OwnT (crcPut l)) := by
  subst hn
  refine Spc.enter Tryz.func149 rfl rfl rfl (fun w0 hw0 => ?_)
  refine CW.seq (CW.rg (RL.p rfl (RL.nil (NQ.seq (CW.seq (CW.region (ef := [2, 3]) (bk := [3]) (RL.p rfl (RL.callvq (csum_any p c _ l rfl (by omega)) Tryz.call180 rfl rfl rfl rfl ?_))))))))
  refine RL.alloc Tryz.zeroValue318 rfl rfl rfl rfl rfl ?_
  intro b1
  refine RL.store (vs := [_, _, _, _]) Tryz.sizeOf318 rfl rfl rfl rfl rfl rfl rfl rfl rfl (by repeat (first | exact Upd.here | apply Upd.there)) ?_
  refine RL.nil (NQ.seq (CW.seq (CW.region (ef := [2, 3]) (bk := []) (RL.p rfl (RL.sliceAll Tryz.runUnderlying318 Tryz.sizeOf5 (by decide) rfl rfl rfl rfl ?_)))))
  refine RL.buildSlice [_, _] Tryz.runUnderlying161 Tryz.sizeOf74 Tryz.zeroValue74 rfl rfl (by decide) (by decide) rfl rfl rfl rfl rfl rfl ?_
  intro b2
  refine RL.call (concatT (some ⟨b2, 0, none⟩) 2 2 [⟨p, c, l⟩, ⟨some ⟨b1, 0, none⟩, 4, crcS (crcOf l)⟩] (crcPut l) rfl (by decide) (by simp [joined, crcPut]) (by rw [crcPut_len]; omega)) Tryz.call148 rfl rfl rfl rfl rfl (by repeat (first | exact Pick.nil | apply Pick.take | apply Pick.leave)) (Lend.all (by repeat (first | exact List.Mem.head _ | apply List.Mem.tail)) rfl (.inI (by repeat (first | exact List.Mem.head _ | apply List.Mem.tail)) (Lend.all (by repeat (first | exact List.Mem.head _ | apply List.Mem.tail)) rfl .nil))) (.inl rfl) ?_
  rintro _ _ _ ⟨ob1, cap1, rfl, rfl, rfl, ho1⟩
  refine RL.p rfl (RL.nil (NQ.seq (CW.ok [2] rfl (CW.ret ?_))))
  exact RQ.post (res1 rfl rfl) (.keep (Split.none _)) ⟨ob1, cap1, rfl, rfl, rfl, trivial⟩
end Go.Proofs.YtkineolcmdecjaaGreat

namespace Go.Proofs.YtkineolcmdecjaaGreat
open Go.PK
/-! ### The reference's sums -/
theorem radd11 (r : B32) (p : Option Addr) (c n : Nat) (l : List B8) (hn : l.length = n) (hb : n ≤ 1000000) : Spc Tryz.prog 185 #[U32 r, .slice p n c] [sls p 1 n (bytes l)] [] (Is (U32 (crcA r l))) := by
  subst hn
  refine Spc.enter Tryz.func185 rfl rfl rfl (fun w0 hw0 => ?_)
  refine CW.seq (CW.rg (RL.p rfl (RL.nil (NQ.seq (CW.seq (CW.seq (CW.rg (RL.p rfl (RL.nil (NQ.seq (CW.block ?_)))))))))))
  refine CW.genI (fun J hJ => ?_)
  have m2 : sls p 1 l.length (bytes l) ∈ J := hJ _ (by simp)
  clear hJ
  refine CW.loop (γ := Nat) (fun i => i ≤ l.length) (fun i => [(0, U32 (crcA r (l.take i))), (1, .slice p l.length c), (5, .int .i64 (i : Int))]) (fun _ => J) (fun _ => []) (fun i => l.length - i) 0 (Nat.zero_le _) (.cons rfl (.cons rfl (.cons rfl .nil))) (fun w h => h.rea (fun _ h => h) (by repeat (first | exact Rea.nil | (apply Rea.cons; (solve | (repeat (first | exact Del.here | apply Del.there))))))) ?_
  intro i hi
  refine CW.fact (p := p = none → l.length = 0) (fun w hC e => sls_nil (hC.s.i _ m2) e) (fun hpa => ?_)
  refine CW.seq (CW.seq (CW.rg (RL.p rfl (RL.p rfl (RL.lenS Tryz.runUnderlying74 rfl rfl rfl rfl (RL.p rfl (RL.nil (NQ.seq ?_))))))))
  refine CW.cond rfl (fun hlt => ?_) (fun hlt => ?_)
  ·
    have hlt : i < l.length := by simp at hlt; omega
    cases p with
    | none => exact absurd (hpa rfl) (by omega)
    | some a =>
    have hx := List.getElem?_eq_getElem hlt
    have htk := fun r => crcA_take (r := r) hx
    generalize l[i] = x at hx htk
    have f1 : RdI J (a.add (i * 1)) (U8 x) := ⟨fun _ => by
      rw [Nat.mul_one]
      exact Rds.rd (Rds.sls m2) (by rw [List.getElem?_map, hx]; rfl)⟩
    refine CW.skip (NQ.seq (CW.seq (CW.block (CW.seq (CW.rg (RL.p rfl (RL.p rfl (RL.p rfl ?_))))))))
    first | refine RL.idxAt (j := i) Tryz.runUnderlying74 Tryz.sizeOf5 rfl rfl rfl rfl rfl rfl (hlt) ?_ | refine RL.idx (j := i) Tryz.runUnderlying74 Tryz.sizeOf5 rfl rfl rfl rfl rfl rfl (hlt) ?_
    refine RL.loadq Tryz.isAgg5 rfl rfl rfl rfl ?_
    refine RL.widen Tryz.runUnderlying5 Tryz.runUnderlying61 rfl rfl rfl rfl (RL.bv32 (a := _) (b := _) xor32 rfl rfl rfl rfl rfl ?_)
    refine RL.p rfl (RL.nil (NQ.seq (CW.ok [0, 1, 5] rfl (CW.seq (CW.rg (RL.p rfl (RL.nil (NQ.seq (CW.block (CW.loop (γ := Nat) (fun k => k ≤ 8) (fun k => [(0, U32 (crcN k (crcA r (l.take i) ^^^ x.setWidth 32))), (1, .slice (some a) l.length c), (5, .int .i64 (i : Int)), (6, .int .i64 (k : Int))]) (fun _ => J) (fun _ => []) (fun k => 8 - k) 0 (Nat.zero_le _) (.cons rfl (.cons rfl (.cons rfl (.cons rfl .nil)))) (fun w h => h.rea (fun _ h => h) (by repeat (first | exact Rea.nil | (apply Rea.cons; (solve | (repeat (first | exact Del.here | apply Del.there))))))) ?_))))))))))
    intro k hk
    generalize hs : crcN k (crcA r (l.take i) ^^^ x.setWidth 32) = s
    refine CW.seq (CW.seq (CW.rg (RL.p rfl (RL.p rfl (RL.nil (NQ.seq ?_))))))
    refine CW.cond rfl (fun hk8 => ?_) (fun hk8 => ?_)
    ·
      refine CW.skip (NQ.seq (CW.seq (CW.block (CW.seq (CW.rg (RL.p rfl (RL.rem32 (2#32) rfl rfl rfl rfl rfl (by decide) ?_)))))))
      refine RL.p rfl (RL.nil (NQ.seq (CW.seq (CW.rg (RL.p rfl (RL.quo32 (2#32) rfl rfl rfl rfl rfl (by decide) ?_))))))
      refine RL.p rfl (RL.nil (NQ.seq (CW.ok [0, 1, 5, 6, 7] rfl (CW.seq (CW.rg (RL.p rfl (RL.p rfl (RL.nil (NQ.seq ?_)))))))))
      have hk8 : k < 8 := by simp at hk8; omega
      refine CW.cond rfl (fun ho => ?_) (fun ho => ?_)
      ·
        refine CW.rg (RL.p rfl (RL.bv32 (a := _) (b := 3988292384#32) xor32 rfl rfl rfl rfl rfl ?_))
        refine RL.p rfl (RL.nil (NQ.block (NQ.seq (CW.rg (RL.p rfl (RL.bx rfl (wrapV_i64 (by omega) (by omega)) ?_))))))
        refine RL.p rfl (RL.nil ?_)
        have ho : s % 2#32 = 1#32 := by
          have h2 : ((s % 2#32).toNat : Int) = ((1#32 : B32).toNat : Int) := by simpa using ho
          exact BitVec.eq_of_toNat_eq (by omega)
        have hc := crc_odd ho
        exact NQ.round (g := k) (k + 1) hk8 (by show 8 - (k + 1) < 8 - k; omega) (.cons (by rw [crcN, hs, ← hc]; rfl) (.cons rfl (.cons rfl (.cons rfl .nil)))) (fun w h => h.rea (fun _ h => h) (by repeat (first | exact Rea.nil | (apply Rea.cons; (solve | (repeat (first | exact Del.here | apply Del.there)))))))
      ·
        refine CW.skip (NQ.block (NQ.seq (CW.rg (RL.p rfl (RL.bx rfl (wrapV_i64 (by omega) (by omega)) ?_)))))
        refine RL.p rfl (RL.nil ?_)
        have ho : s % 2#32 ≠ 1#32 := fun h => by
          have h2 : ¬ ((s % 2#32).toNat : Int) = ((1#32 : B32).toNat : Int) := by simpa using ho
          exact h2 (by rw [h])
        have hc := crc_even ho
        exact NQ.round (g := k) (k + 1) hk8 (by show 8 - (k + 1) < 8 - k; omega) (.cons (by rw [crcN, hs, ← hc]; rfl) (.cons rfl (.cons rfl (.cons rfl .nil)))) (fun w h => h.rea (fun _ h => h) (by repeat (first | exact Rea.nil | (apply Rea.cons; (solve | (repeat (first | exact Del.here | apply Del.there)))))))
    ·
      refine CW.exit (XQ.seq (XQ.seq (XQ.hit (NQ.block (NQ.seq (CW.rg (RL.p rfl (RL.bx rfl (wrapV_i64 (by omega) (by omega)) ?_))))))))
      refine RL.p rfl (RL.nil ?_)
      have hk8 : k = 8 := by simp at hk8; omega
      subst hk8
      refine NQ.round (g := i) (i + 1) hlt (by show l.length - (i + 1) < l.length - i; omega) (.cons (by rw [htk, crcX, hs]; rfl) (.cons rfl (.cons rfl .nil))) (fun w h => h.rea (fun _ h => h) (by repeat (first | exact Rea.nil | (apply Rea.cons; (solve | (repeat (first | exact Del.here | apply Del.there)))))))
  ·
    refine CW.exit (XQ.seq (XQ.seq (XQ.hit (NQ.seq (CW.ok [0] rfl (CW.seq (CW.rg (RL.p rfl (RL.p rfl (RL.nil (NQ.seq (CW.ret ?_))))))))))))
    have hin : i = l.length := by simp at hlt; omega
    subst hin
    exact RQ.post (res1 rfl rfl) (Split.none _) ⟨by rw [List.take_length], rfl, rfl⟩
theorem rof11 (p : Option Addr) (c n : Nat) (l : List B8) (hn : l.length = n) (hb : n ≤ 1000000) : Spc Tryz.prog 152 #[.slice p n c] [sls p 1 n (bytes l)] [] (Is (U32 (crcOf l))) := by
  refine Spc.enter Tryz.func152 rfl rfl rfl (fun w0 hw0 => ?_)
  refine CW.seq (CW.rg (RL.p rfl (RL.nil (NQ.seq (CW.seq (CW.rg (RL.p rfl (RL.callvq (radd11 (~~~ 0#32) p c n l hn hb) Tryz.call185 rfl rfl rfl rfl ?_))))))))
  refine RL.p rfl (RL.cast (d := 5) rfl (sub_inv _) ?_)
  refine RL.p rfl (RL.nil (NQ.seq (CW.ret ?_)))
  exact RQ.post (res1 rfl rfl) (Split.none _) ⟨rfl, rfl, rfl⟩
theorem rput11 (p : Option Addr) (c n : Nat) (l : List B8) (hn : l.length = n) (hb : n ≤ 900000) : Spc Tryz.prog 114 #[.slice p n c] [sls p 1 n (bytes l)] [] (OwnT (crcPut l)) := by
  subst hn
  have hS := crcS_ref (crcOf l)
  refine Spc.enter Tryz.func114 rfl rfl rfl (fun w0 hw0 => ?_)
  refine CW.seq (CW.rg (RL.p rfl (RL.nil (NQ.seq (CW.seq (CW.rg (RL.p rfl (RL.callvq (rof11 p c _ l rfl (by omega)) Tryz.call152 rfl rfl rfl rfl ?_))))))))
  refine RL.p rfl (RL.nil (NQ.seq (CW.seq (CW.region (ef := [0, 2, 17, 18]) (bk := [2, 18]) (RL.buildOwn [] Tryz.runUnderlying74 Tryz.sizeOf5 Tryz.zeroValue5 rfl rfl (by decide) (by decide) rfl (by decide) rfl rfl rfl rfl rfl rfl ?_)))))
  intro b1
  refine RL.p rfl (RL.appendq el_74 rfl rfl rfl rfl rfl rfl rfl ?_)
  intro ob1 cap1 ho1
  refine RL.p rfl (RL.rem32 (256#32) rfl rfl rfl rfl rfl (by decide) ?_)
  refine RL.narrow Tryz.runUnderlying61 Tryz.runUnderlying5 rfl rfl rfl rfl (RL.p rfl (RL.quo32 (256#32) rfl rfl rfl rfl rfl (by decide) ?_))
  refine RL.rem32 (256#32) rfl rfl rfl rfl rfl (by decide) ?_
  refine RL.narrow Tryz.runUnderlying61 Tryz.runUnderlying5 rfl rfl rfl rfl (RL.p rfl (RL.quo32 (65536#32) rfl rfl rfl rfl rfl (by decide) ?_))
  refine RL.rem32 (256#32) rfl rfl rfl rfl rfl (by decide) ?_
  refine RL.narrow Tryz.runUnderlying61 Tryz.runUnderlying5 rfl rfl rfl rfl (RL.p rfl (RL.quo32 (16777216#32) rfl rfl rfl rfl rfl (by decide) ?_))
  refine RL.narrow Tryz.runUnderlying61 Tryz.runUnderlying5 rfl rfl rfl rfl (RL.buildOwn [_, _, _, _] Tryz.runUnderlying74 Tryz.sizeOf5 Tryz.zeroValue5 rfl rfl (by decide) (by decide) rfl (by decide) rfl rfl rfl rfl rfl rfl ?_)
  intro b2
  refine RL.appendq el_74 rfl rfl rfl rfl rfl rfl rfl ?_
  intro ob2 cap2 ho2
  refine RL.p rfl (RL.nil (NQ.seq (CW.ok [2] rfl (CW.ret ?_))))
  rw [own_is (n' := (crcPut l).length) (xs' := bytes (crcPut l)) (by rw [crcPut_len]; omega) (by rw [crcPut, ← hS]; simp)]
  exact RQ.post (res1 rfl rfl) (.keep (Split.none _)) ⟨ob2, cap2, by rw [crcPut_len, Nat.zero_add], rfl, rfl, trivial⟩
theorem rright11 (p : Option Addr) (c n : Nat) (l : List B8) (hn : (crcPut l).length = n) (hb : n ≤ 900000) (hc : n ≤ c) : Spc Tryz.prog 68 #[.slice p n c] [sls p 1 n (bytes (crcPut l))] [] (Is (.bool true)) := by
  have hlen := crcPut_len l
  subst hn
  have hl := Lies.takeB (p := p) (c := c) (k := l.length) (m := crcPut l) (by omega) hc
  have he : (crcPut l).take l.length = l := by rw [crcPut, List.take_left' rfl]
  rw [he] at hl
  refine Spc.enter Tryz.func68 rfl rfl rfl (fun w0 hw0 => ?_)
  refine CW.seq (CW.rg (RL.p rfl (RL.nil (NQ.seq (CW.seq (CW.seq (CW.sub hl (List.Mem.head _) (CW.rg (RL.p rfl (RL.lenS Tryz.runUnderlying74 rfl rfl rfl rfl (RL.p rfl (RL.nil (NQ.seq ?_)))))))))))))
  refine CW.condF rfl ((by simp; omega)) ?_
  refine CW.skip (NQ.seq (CW.seq (CW.regionD (Sq.of [0, 1, 2, 3, 4, 7, 8, 5, 6, 9, 10]) [5] [] [0, 1, 2, 3, 4, 7, 9, 10] mixed (by kernel_rfl) ?_)))
  refine RL.p rfl (RL.p rfl (RL.lenS Tryz.runUnderlying74 rfl rfl rfl rfl (RL.bx rfl (wrapV_i64 (by omega) (by omega)) ?_)))
  refine RL.cast (d := 9) (v' := .int .i64 (l.length : Int)) rfl (by congr 1; omega) ?_
  refine RL.slice (lo := 0) (hi := l.length) Tryz.runUnderlying74 Tryz.sizeOf5 rfl rfl rfl rfl rfl rfl (by omega) (by omega) ?_
  refine RL.p rfl (RL.bytesStr (bs := crcPut l) (e := 5) (by kernel_rfl) (by kernel_rfl) (by kernel_rfl) rfl rfl rfl rfl (Src.sls (by repeat (first | exact List.Mem.head _ | apply List.Mem.tail))) ?_)
  refine RL.call (rput11 (if c = 0 then p else p.map (·.add (0 * 1))) (c - 0) _ l rfl (by omega)) Tryz.call114 rfl rfl rfl rfl rfl (by repeat (first | exact Pick.nil | apply Pick.take | apply Pick.leave)) (.inI (List.Mem.head _) .nil) (.inl rfl) ?_
  rintro _ _ _ ⟨ob1, cap1, rfl, rfl, rfl, ho1⟩
  refine RL.bytesStr (bs := crcPut l) (e := 5) (by kernel_rfl) (by kernel_rfl) (by kernel_rfl) rfl rfl rfl rfl (Src.own (by repeat (first | exact List.Mem.head _ | apply List.Mem.tail))) ?_
  refine RL.cmp rfl rfl rfl rfl rfl (eql_txt (crcPut l) (crcPut l)) (RL.p rfl (RL.nil (NQ.seq (CW.ok [2] rfl (CW.ret ?_)))))
  exact RQ.post (res1 rfl rfl) (Split.none _) ⟨by simp, rfl, rfl⟩
end Go.Proofs.YtkineolcmdecjaaGreat

namespace Go.Proofs.YtkineolcmdecjaaGreat
open Go.PK

def octO (n : Int) : Bool := Bool.or (decide (n < 0)) (decide (n > 255))
theorem octO_any (n : Int) : Spc Tryz.prog 178 #[.int .i64 n] [] [] (Is (.bool (octO n))) := by
  refine Spc.enter Tryz.func178 rfl rfl rfl (fun w0 hw0 => ?_)
  refine CW.seq (CW.rg (RL.p rfl (RL.nil (NQ.seq (CW.seq (CW.rg (RL.p rfl (RL.p rfl (RL.p rfl ?_)))))))))
  apply RL.orB (d := 5) (dp := 8) (l' := (Sq.of [6])) rfl (sK [2] rfl)
  ·
    intro hb3 K3
    refine RL.p rfl (RL.p rfl (RL.p rfl ?_))
    exact K3 _ (.cons rfl (sK [2] rfl))
  ·
    intro hb3 K3
    refine RL.p rfl (RL.p rfl (RL.p rfl ?_))
    exact K3 _ (.cons rfl (sK [2] rfl))
  refine RL.p rfl (RL.nil (NQ.seq (CW.ret ?_)))
  exact RQ.post (res1 rfl rfl) (Split.none _) ⟨rfl, rfl, rfl⟩

def octOFind : List Int → Nat → Int
  | [], _ => -1
  | x :: r, i => if octO x then (i : Int) else octOFind r (i + 1)
theorem octOFind_any : ∀ (l : List Int) (i : Nat), decide (octOFind l i ≥ 0) = l.any octO
  | [], i => rfl
  | x :: r, i => by
    rw [octOFind, List.any_cons]
    cases h : octO x
    · rw [if_neg (by simp), octOFind_any r (i + 1)]; simp
    · rw [if_pos rfl]; simp
theorem octOFind_walk (p : Option Addr) (n c : Nat) (l : List Int) (hn : l.length = n) (hb : n ≤ 1000000000) : Spc Tryz.prog 200 #[.slice p n c, .func (.func 178) #[] #[]] [sls p 1 n (ints l)] [] (Is (.int .i64 (octOFind l 0))) := by
  subst hn
  refine Spc.enter Tryz.func200 rfl rfl rfl (fun w0 hw0 => ?_)
  refine CW.seq (CW.rg (RL.p rfl (RL.nil (NQ.seq (CW.seq (CW.seq (CW.rg (RL.p rfl (RL.lenS Tryz.runUnderlying52 rfl rfl rfl rfl (RL.p rfl (RL.nil (NQ.seq (CW.block ?_)))))))))))))
  refine CW.loop (γ := Nat) (fun i => i ≤ l.length ∧ octOFind l 0 = octOFind (l.drop i) i) (fun i => [(0, .slice p l.length c), (1, .func (.func 178) #[] #[]), (7, .int .i64 (l.length : Int)), (8, .int .i64 (i : Int))]) (fun _ => [sls p 1 l.length (ints l)])
    (fun _ => []) (fun i => l.length - i) 0 ⟨by omega, by simp⟩ (.cons rfl (.cons rfl (.cons rfl (.cons rfl .nil)))) (fun w h => h) ?_
  rintro i ⟨hi, he⟩
  refine CW.fact (p := p = none → l.length = 0) (fun w hC e => sls_nil (hC.s.i _ (List.Mem.head _)) e) (fun hpp => ?_)
  refine CW.seq (CW.rg (RL.p rfl (RL.nil (NQ.seq (CW.seq ?_)))))
  refine CW.cond rfl (fun hlt => ?_) (fun hlt => ?_)
  ·
    have hlt : i < l.length := by simp at hlt; omega
    obtain ⟨a, rfl⟩ : ∃ a, p = some a := by
      cases p with
      | none => exact absurd (hpp rfl) (by omega)
      | some a => exact ⟨a, rfl⟩
    have hd : l.drop i = l[i] :: l.drop (i + 1) := List.drop_eq_getElem_cons hlt
    rw [hd, octOFind] at he
    refine CW.skip (NQ.seq (CW.seq (CW.block (CW.seq (CW.rg (RL.p rfl (RL.p rfl (RL.nil (NQ.seq (CW.seq (CW.region (ef := [5]) (bk := []) (RL.p rfl (RL.p rfl ?_)))))))))))))
    refine RL.p rfl (RL.idx (j := i) Tryz.runUnderlying52 Tryz.sizeOf3 rfl rfl rfl rfl rfl rfl hlt ?_)
    refine RL.load Tryz.isAgg3 rfl rfl rfl rfl (Rd.getS (by repeat (first | exact List.Mem.head _ | apply List.Mem.tail)) (show (ints l)[i * 1]? = some (.int .i64 l[i]) by rw [Nat.mul_one, List.getElem?_map, List.getElem?_eq_getElem hlt]; rfl)) ?_
    refine RL.callvF (octO_any l[i]) Tryz.call178 rfl rfl rfl rfl rfl (by repeat (first | exact Lend.nil | (refine Lend.inI ?_ ?_; (solve | (repeat (first | exact List.Mem.head _ | apply List.Mem.tail)))) | (refine Lend.inH ?_ ?_; (solve | (repeat (first | exact List.Mem.head _ | apply List.Mem.tail)))))) ?_
    refine RL.nil (NQ.seq (CW.ok [0, 1, 5, 7, 8, 16] rfl ?_))
    refine CW.cond rfl (fun ho => ?_) (fun ho => ?_)
    ·
      refine CW.seq (CW.rg (RL.p rfl (RL.p rfl (RL.nil (NQ.seq (CW.ret (RQ.block (RQ.seq (RQ.seq (RQ.block (RQ.seq ?_)))))))))))
      rw [if_pos ho] at he
      exact RQ.post (res1 rfl rfl) (Split.none _) ⟨by rw [he], rfl, rfl⟩
    ·
      refine CW.skip (NQ.block (NQ.seq (CW.rg (RL.bx rfl (wrapV_i64 (by omega) (by omega)) ?_))))
      refine RL.p rfl (RL.nil ?_)
      rw [if_neg (by rw [ho]; decide)] at he
      refine NQ.round (g := i) (i + 1) ⟨hlt, he⟩ (by show l.length - (i + 1) < l.length - i; omega) (.cons rfl (.cons rfl (.cons rfl (.cons rfl .nil)))) (fun w h => h)
  ·
    refine CW.exit (XQ.seq (XQ.seq (XQ.hit (NQ.seq (CW.seq (CW.rg (RL.p rfl (RL.nil (NQ.seq (CW.ret ?_))))))))))
    have hin : i = l.length := by simp at hlt; omega
    subst hin
    rw [List.drop_length] at he
    exact RQ.post (res1 rfl rfl) (Split.none _) ⟨by rw [he]; rfl, rfl, rfl⟩
theorem octOHas_walk (p : Option Addr) (n c : Nat) (l : List Int) (hn : l.length = n) (hb : n ≤ 1000000000) : Spc Tryz.prog 177 #[.slice p n c, .func (.func 178) #[] #[]] [sls p 1 n (ints l)] [] (Is (.bool (l.any octO))) := by
  refine Spc.enter Tryz.func177 rfl rfl rfl (fun w0 hw0 => ?_)
  refine CW.seq (CW.rg (RL.p rfl (RL.nil (NQ.seq (CW.seq (CW.rg (RL.p rfl (RL.p rfl (RL.callvq (octOFind_walk p n c l hn hb) Tryz.call200 rfl rfl rfl rfl ?_)))))))))
  refine RL.p rfl (RL.p rfl (RL.nil (NQ.seq (CW.ok [4] rfl (CW.ret ?_)))))
  exact RQ.post (res1 rfl rfl) (Split.none _) ⟨by rw [← octOFind_any l 0], rfl, rfl⟩
end Go.Proofs.YtkineolcmdecjaaGreat

namespace Go.Proofs.YtkineolcmdecjaaGreat
open Go.PK
/-! ### A frame's bytes -/
theorem Lies.seg {b off n : Nat} {cs xs : List Value} {T : TypeId} (hl : xs.length = n * 1) (hx : ∀ j u, xs[j]? = some u → cs[off + j]? = some u) : Lies (cel b cs T) (sls (some ⟨b, off, none⟩) 1 n xs) :=
  ⟨fun _ h => cel_sls h hl hx, fun c hc => by by_cases hn : n = 0 <;> simp_all [PK.sls, PK.cel]⟩
def frB (f : Fr) : List B8 := [165#8, 90#8] ++ crcPut (BitVec.ofInt 8 ((f.signed ++ f.tag).length : Int) :: (f.signed ++ f.tag))
def OwnP (l : List B8) : Value → List It → List It → Prop := fun v I' H' => ∃ ob cap, v = .tuple #[slO ob l.length cap, .int .i64 0] ∧ I' = [] ∧ H' = [own ob cap 5 1 l.length (bytes l)]
structure Fr.Fit (f : Fr) : Prop where
  ok : f.Ok
  kd : 0 ≤ f.kd ∧ f.kd ≤ 255
  sr : 0 ≤ f.sr ∧ f.sr ≤ 255
  b : f.b.length ≤ 48
theorem frB_len {f : Fr} (h : f.tag.length = 16) : (frB f).length = 37 + f.b.length := by
  simp [frB, crcPut, crcS, signed_len, h]; omega
theorem octets_any (b : Nat) (l : List Int) (n : Nat) (hn : l.length = n) (hb : n ≤ 1000000) : Spc Tryz.prog 147 #[.slice (some ⟨b, 0, none⟩) n n] [sls (some ⟨b, 0, none⟩) 1 n (ints l)] [] (Is (.bool (!l.any octO))) := by
  refine Spc.enter Tryz.func147 rfl rfl rfl (fun w0 hw0 => ?_)
  refine CW.seq (CW.rg (RL.p rfl (RL.nil (NQ.seq (CW.seq (CW.rg (RL.p rfl (RL.callvq (octOHas_walk (some ⟨b, 0, none⟩) n n l hn (by omega)) Tryz.call177 rfl rfl rfl rfl ?_))))))))
  refine RL.p rfl (RL.p rfl (RL.nil (NQ.seq (CW.ret ?_))))
  exact RQ.post (res1 rfl rfl) (Split.none _) ⟨rfl, rfl, rfl⟩
theorem fput_any (f : Fr) (p : Option Addr) (c n : Nat) (hf : f.Fit) (hn : f.b.length = n) : Spc Tryz.prog 109 #[.agg (f.cells (.slice p n c)).toArray] [sls p 1 n (bytes f.b)] [] (OwnP (frB f)) := by
  subst hn
  have hl := fr_len hf.ok.tag (.slice p f.b.length c)
  have hsl := signed_len f
  have hb := hf.b
  have htl : (bytes f.tag).length = 16 * 1 := by rw [List.length_map, hf.ok.tag]
  refine Spc.enter Tryz.func109 rfl rfl rfl (fun w0 hw0 => ?_)
  refine CW.seq (CW.region (ef := [0]) (bk := []) (RL.box rfl rfl rfl rfl rfl rfl ?_))
  intro b1
  refine RL.p rfl (RL.p rfl (RL.nil (NQ.seq (CW.seq (CW.block (CW.seq (CW.freezeP (A := [cel b1 (f.cells (.slice p f.b.length c)) 78]) (B := []) (.take .nil) rfl (CW.sub (Lies.seg (off := 0 + 5) (n := f.tag.length) (xs := bytes f.tag) (by simp) (fr_tag f _)) (List.Mem.head _) ?_))))))))
  refine CW.genI (fun J hJ => ?_)
  have mT : sls (some ⟨b1, 0 + 5, none⟩) 1 f.tag.length (bytes f.tag) ∈ J := hJ _ (List.Mem.head _)
  have m1 : cel b1 (f.cells (.slice p f.b.length c)) 78 ∈ J := hJ _ (List.Mem.tail _ (List.Mem.head _))
  have mB : sls p 1 f.b.length (bytes f.b) ∈ J := hJ _ (List.Mem.tail _ (List.Mem.tail _ (List.Mem.head _)))
  clear hJ
  have f0 : RdI J ⟨b1, 0 + 0, none⟩ (.int .i64 f.kd) := ⟨fun _ => Rd.celI m1 rfl⟩
  have f1 : RdI J ⟨b1, 0 + 1, none⟩ (.int .i64 f.sr) := ⟨fun _ => Rd.celI m1 rfl⟩
  have f4 : RdI J ⟨b1, 0 + 4, none⟩ (.slice p f.b.length c) := ⟨fun _ => Rd.celI m1 rfl⟩
  have fA : RdsN J ⟨b1, 0, none⟩ 21 (f.cells (.slice p f.b.length c)) := ⟨fun _ => Rds.allI m1, hl⟩
  refine CW.region (ef := [4]) (bk := []) (RL.fieldAddr fa_78_0 rfl rfl rfl rfl (RL.loadq Tryz.isAgg3 rfl rfl rfl rfl ?_))
  refine RL.fieldAddr fa_78_1 rfl rfl rfl rfl (RL.loadq Tryz.isAgg3 rfl rfl rfl rfl ?_)
  refine RL.buildSlice [_, _] Tryz.runUnderlying52 Tryz.sizeOf3 Tryz.zeroValue3 rfl rfl (by decide) (by decide) rfl rfl rfl rfl rfl rfl ?_
  intro b2
  refine RL.callv (octets_any b2 [f.kd, f.sr] 2 rfl (by decide)) Tryz.call147 rfl rfl rfl rfl (Lend.all (by repeat (first | exact List.Mem.head _ | apply List.Mem.tail)) rfl .nil) ?_
  refine RL.p rfl (RL.p rfl (RL.nil (NQ.seq (CW.ok [1, 2, 3, 6] rfl ?_))))
  have ho : [f.kd, f.sr].any octO = false := by
    have h1 := hf.kd; have h2 := hf.sr
    simp [octO]; omega
  refine CW.condF rfl ((by rw [ho]; rfl)) ?_
  refine CW.seq (CW.rg (RL.fieldAddr fa_78_4 rfl rfl rfl rfl (RL.loadq Tryz.isAgg74 rfl rfl rfl rfl ?_)))
  refine RL.lenS Tryz.runUnderlying74 rfl rfl rfl rfl (RL.p rfl (RL.p rfl (RL.nil (NQ.seq ?_))))
  have hst : (f.signed ++ f.tag).length = 30 + f.b.length := by rw [List.length_append, hsl, hf.ok.tag]; omega
  refine CW.condF rfl ((by simp; omega)) ?_
  refine CW.skip (NQ.block (NQ.seq (CW.ok [1] rfl (CW.seq (CW.regionD (Sq.of [0, 2, 3, 1, 4, 5, 6]) [1, 4, 5] [] [0, 2, 3, 6] mixed (by kernel_rfl) ?_)))))
  refine RL.loadSTq Tryz.isAgg78 Tryz.sizeOf78 rfl rfl rfl rfl ?_
  refine RL.fieldAddr fa_78_5 rfl rfl rfl rfl (RL.sliceAll Tryz.runUnderlying76 Tryz.sizeOf5 (by decide) rfl rfl rfl rfl ?_)
  refine RL.cast (d := 22) (v' := .slice (some ⟨b1, 0 + 5, none⟩) f.tag.length f.tag.length) rfl (by rw [hf.ok.tag]) ?_
  refine RL.call (signed_any f p c _ hf.ok rfl (by omega)) Tryz.call112 rfl rfl rfl rfl rfl (by repeat (first | exact Pick.nil | apply Pick.take | apply Pick.leave)) (.inI mB .nil) (.inl rfl) ?_
  rintro _ _ _ ⟨ob1, cap1, rfl, rfl, rfl, ho1⟩
  refine RL.buildSlice [_, _] Tryz.runUnderlying161 Tryz.sizeOf74 Tryz.zeroValue74 rfl rfl (by decide) (by decide) rfl rfl rfl rfl rfl rfl ?_
  intro b3
  refine RL.call (concatT (some ⟨b3, 0, none⟩) 2 2 [⟨ob1.map fun b => ⟨b, 0, none⟩, cap1, f.signed⟩, ⟨some ⟨b1, 0 + 5, none⟩, f.tag.length, f.tag⟩] (f.signed ++ f.tag) rfl (by decide) (by simp [joined]) (by omega)) Tryz.call148 rfl rfl rfl rfl rfl (by repeat (first | exact Pick.nil | apply Pick.take | apply Pick.leave)) (Lend.allX (by repeat (first | exact List.Mem.head _ | apply List.Mem.tail)) rfl rfl (Lend.own (by repeat (first | exact List.Mem.head _ | apply List.Mem.tail)) (.inI mT .nil))) (.inl rfl) ?_
  rintro _ _ _ ⟨ob2, cap2, rfl, rfl, rfl, ho2⟩
  refine RL.p rfl (RL.nil (NQ.seq (CW.ok [4] rfl (CW.seq (CW.region (ef := [3, 5, 6, 7]) (bk := []) (RL.p rfl (RL.lenS Tryz.runUnderlying74 rfl rfl rfl rfl (RL.lowest Tryz.runUnderlying3 Tryz.runUnderlying5 rfl rfl rfl rfl (RL.buildSlice [_] Tryz.runUnderlying74 Tryz.sizeOf5 Tryz.zeroValue5 rfl rfl (by decide) (by decide) rfl rfl rfl rfl rfl rfl ?_)))))))))
  intro b4
  refine RL.p rfl (RL.buildSlice [_, _] Tryz.runUnderlying161 Tryz.sizeOf74 Tryz.zeroValue74 rfl rfl (by decide) (by decide) rfl rfl rfl rfl rfl rfl ?_)
  intro b5
  refine RL.call (concatT (some ⟨b5, 0, none⟩) 2 2 [⟨some ⟨b4, 0, none⟩, 1, [BitVec.ofInt 8 ((f.signed ++ f.tag).length : Int)]⟩, ⟨ob2.map fun b => ⟨b, 0, none⟩, cap2, f.signed ++ f.tag⟩] (BitVec.ofInt 8 ((f.signed ++ f.tag).length : Int) :: (f.signed ++ f.tag)) rfl (by decide) (by simp [joined]) (by rw [List.length_cons]; omega)) Tryz.call148 rfl rfl rfl rfl rfl (by repeat (first | exact Pick.nil | apply Pick.take | apply Pick.leave)) (Lend.allX (by repeat (first | exact List.Mem.head _ | apply List.Mem.tail)) rfl rfl (Lend.all (by repeat (first | exact List.Mem.head _ | apply List.Mem.tail)) rfl (Lend.own (by repeat (first | exact List.Mem.head _ | apply List.Mem.tail)) .nil))) (.inl rfl) ?_
  rintro _ _ _ ⟨ob3, cap3, rfl, rfl, rfl, ho3⟩
  refine RL.call (cput_any (ob3.map fun b => ⟨b, 0, none⟩) cap3 _ (BitVec.ofInt 8 ((f.signed ++ f.tag).length : Int) :: (f.signed ++ f.tag)) rfl (by rw [List.length_cons]; omega)) Tryz.call149 rfl rfl rfl rfl rfl (by repeat (first | exact Pick.nil | apply Pick.take | apply Pick.leave)) (Lend.own (by repeat (first | exact List.Mem.head _ | apply List.Mem.tail)) .nil) (.inl rfl) ?_
  rintro _ _ _ ⟨ob4, cap4, rfl, rfl, rfl, ho4⟩
  refine RL.p rfl (RL.nil (NQ.seq (CW.ok [5] rfl (CW.seq (CW.region (ef := [0, 2, 3]) (bk := []) (RL.buildSlice [_, _] Tryz.runUnderlying74 Tryz.sizeOf5 Tryz.zeroValue5 rfl rfl (by decide) (by decide) rfl rfl rfl rfl rfl rfl ?_))))))
  intro b6
  refine RL.p rfl (RL.buildSlice [_, _] Tryz.runUnderlying161 Tryz.sizeOf74 Tryz.zeroValue74 rfl rfl (by decide) (by decide) rfl rfl rfl rfl rfl rfl ?_)
  intro b7
  refine RL.call (concatT (some ⟨b7, 0, none⟩) 2 2 [⟨some ⟨b6, 0, none⟩, 2, [165#8, 90#8]⟩, ⟨ob4.map fun b => ⟨b, 0, none⟩, cap4, crcPut (BitVec.ofInt 8 ((f.signed ++ f.tag).length : Int) :: (f.signed ++ f.tag))⟩] (frB f) rfl (by decide) (by simp [joined, frB]) (by rw [frB_len hf.ok.tag]; omega)) Tryz.call148 rfl rfl rfl rfl rfl (by repeat (first | exact Pick.nil | apply Pick.take | apply Pick.leave)) (Lend.allX (by repeat (first | exact List.Mem.head _ | apply List.Mem.tail)) rfl rfl (Lend.all (by repeat (first | exact List.Mem.head _ | apply List.Mem.tail)) rfl (Lend.own (by repeat (first | exact List.Mem.head _ | apply List.Mem.tail)) .nil))) (.inl rfl) ?_
  rintro _ _ _ ⟨ob5, cap5, rfl, rfl, rfl, ho5⟩
  refine RL.p rfl (RL.p rfl (RL.nil (NQ.seq (CW.ret ?_))))
  exact RQ.post (res2 rfl rfl rfl) (.keep (Split.none _)) ⟨ob5, cap5, rfl, rfl, rfl⟩
end Go.Proofs.YtkineolcmdecjaaGreat

namespace Go.Proofs.YtkineolcmdecjaaGreat
open Go.PK
/-! ### The reference's frames: Put, Read -/
end Go.Proofs.YtkineolcmdecjaaGreat

namespace Go.Proofs.YtkineolcmdecjaaGreat
open Go.PK
/-! ### The reference reads a frame -/
theorem wrapV_u64 {n : Int} (h0 : 0 ≤ n) (h1 : n ≤ 18446744073709551615) : Value.int .u64 (IntKind.u64.wrap n) = .int .u64 n := by
  congr 1
  simp [IntKind.wrap, IntKind.bits, IntKind.signed]
  omega
theorem byte_rdI {J : List It} {b n j : Nat} {l : List B8} {x : B8} (hm : sls (some ⟨b, 0, none⟩) 1 n (bytes l) ∈ J) (hx : l[j]? = some x) : RdI J ⟨b, 0 + j * 1, none⟩ (.int .u8 (x.toNat : Int)) := ⟨fun H => by
  have h := Rds.rd (I := J) (H := H) (p := ⟨b, 0, none⟩) (j := j) (v := .int .u8 (x.toNat : Int)) (Rds.sls hm) (by rw [List.getElem?_map, hx]; rfl)
  rw [add_none] at h
  rwa [show 0 + j * 1 = 0 + j by omega]⟩
theorem rget13 (b c n : Nat) (l : List B8) (hn : l.length = n) (at_ k : Nat) (ha : at_ + k ≤ n) (hk : k ≤ 8) (hb : n ≤ 1000000) : Spc Tryz.prog 69 #[.slice (some ⟨b, 0, none⟩) n c, .int .i64 (at_ : Int), .int .i64 (k : Int)] [sls (some ⟨b, 0, none⟩) 1 n (bytes l)] [] (Is (.int .u64 (numB ((l.drop at_).take k) : Int))) := by
  subst hn
  refine Spc.enter Tryz.func69 rfl rfl rfl (fun w0 hw0 => ?_)
  refine CW.seq (CW.rg (RL.p rfl (RL.nil (NQ.seq (CW.seq (CW.rg (RL.p rfl (RL.nil (NQ.seq (CW.seq (CW.seq (CW.rg (RL.p rfl ?_)))))))))))))
  refine RL.nil (NQ.seq (CW.block ?_))
  refine CW.genI (fun J hJ => ?_)
  have m2 : sls (some ⟨b, 0, none⟩) 1 l.length (bytes l) ∈ J := hJ _ (by simp)
  clear hJ
  refine CW.loop (γ := Nat) (fun i => i ≤ k) (fun i => [(0, .slice (some ⟨b, 0, none⟩) l.length c), (1, .int .i64 (at_ : Int)), (2, .int .i64 (k : Int)), (7, .int .u64 (numB ((l.drop at_).take i) : Int)), (8, .int .i64 (i : Int))]) (fun _ => J) (fun _ => []) (fun i => k - i) 0 (Nat.zero_le _) (.cons rfl (.cons rfl (.cons rfl (.cons rfl (.cons rfl .nil))))) (fun w h => h.rea (fun _ h => h) (by repeat (first | exact Rea.nil | (apply Rea.cons; (solve | (repeat (first | exact Del.here | apply Del.there))))))) ?_
  intro i hi
  refine CW.seq (CW.seq (CW.rg (RL.p rfl (RL.p rfl (RL.p rfl (RL.nil (NQ.seq ?_)))))))
  refine CW.cond rfl (fun hlt => ?_) (fun hlt => ?_)
  ·
    have hlt : i < k := by simp at hlt; omega
    have hx := List.getElem?_eq_getElem (show at_ + i < l.length by omega)
    generalize l[at_ + i] = x at hx
    have hx' : (l.drop at_)[i]? = some x := by rw [List.getElem?_drop]; exact hx
    have htk : numB ((l.drop at_).take (i + 1)) = 256 * numB ((l.drop at_).take i) + x.toNat := by
      rw [List.take_add_one, hx']; exact numB_snoc _ _
    have hlt2 := numB_lt ((l.drop at_).take i)
    have hll : ((l.drop at_).take i).length = i := by rw [List.length_take, List.length_drop]; omega
    rw [hll] at hlt2
    have h7 : 256 ^ i ≤ 256 ^ 7 := Nat.pow_le_pow_right (by decide) (by omega)
    have hxb := x.isLt
    have hbd : numB ((l.drop at_).take i) < 72057594037927936 := by omega
    have f1 : RdI J ⟨b, 0 + (at_ + i) * 1, none⟩ (.int .u8 (x.toNat : Int)) := byte_rdI m2 hx
    refine CW.skip (NQ.seq (CW.seq (CW.block (CW.rg (RL.p rfl (RL.bx rfl (wrapV_u64 (by omega) (by omega)) ?_))))))
    refine RL.p rfl (RL.p rfl (RL.p rfl (RL.bx rfl (wrapV_i64 (by omega) (by omega)) ?_)))
    refine RL.cast (d := 19) (v' := .int .i64 ((at_ + i : Nat) : Int)) rfl (by congr 1) ?_
    refine RL.idxAt (j := at_ + i) Tryz.runUnderlying74 Tryz.sizeOf5 rfl rfl rfl rfl rfl rfl (by omega) ?_
    refine RL.loadq Tryz.isAgg5 rfl rfl rfl rfl ?_
    refine RL.conv Tryz.runUnderlying5 Tryz.runUnderlying32 rfl rfl rfl rfl (RL.cast (d := 22) rfl (wrapV_u64 (by omega) (by omega)) ?_)
    refine RL.bx rfl (wrapV_u64 (by omega) (by omega)) ?_
    refine RL.p rfl (RL.nil (NQ.block (NQ.seq (CW.ok [0, 1, 2, 7, 8] rfl (CW.rg (RL.p rfl (RL.bx rfl (wrapV_i64 (by omega) (by omega)) ?_)))))))
    refine RL.p rfl (RL.nil ?_)
    refine NQ.round (g := i) (i + 1) hlt (by show k - (i + 1) < k - i; omega) (.cons rfl (.cons rfl (.cons rfl (.cons (by rw [htk]; show some (Value.int .u64 _) = some (Value.int .u64 _); congr 2) (.cons rfl .nil))))) (fun w h => h.rea (fun _ h => h) (by repeat (first | exact Rea.nil | (apply Rea.cons; (solve | (repeat (first | exact Del.here | apply Del.there)))))))
  ·
    refine CW.exit (XQ.seq (XQ.seq (XQ.hit (NQ.seq (CW.ok [7] rfl (CW.seq (CW.rg (RL.p rfl (RL.p rfl (RL.nil (NQ.seq (CW.ret ?_))))))))))))
    have hin : i = k := by simp at hlt; omega
    subst hin
    exact RQ.post (res1 rfl rfl) (Split.none _) ⟨rfl, rfl, rfl⟩
end Go.Proofs.YtkineolcmdecjaaGreat

namespace Go.Proofs.YtkineolcmdecjaaGreat
open Go.PK
/-! ### What was put is read -/
def crcT (f : Fr) : List B8 := crcS (crcOf (BitVec.ofInt 8 ((f.signed ++ f.tag).length : Int) :: (f.signed ++ f.tag)))
theorem frB_eq (f : Fr) : frB f = [165#8, 90#8, BitVec.ofInt 8 ((f.signed ++ f.tag).length : Int), BitVec.ofInt 8 f.kd, BitVec.ofInt 8 f.sr] ++ (beN 4 f.ep ++ (beN 8 f.ct ++ (f.b ++ (f.tag ++ crcT f)))) := by
  simp [frB, crcPut, crcT, Fr.signed]
theorem byteN {n : Int} (h : 0 ≤ n ∧ n ≤ 255) : ((BitVec.ofInt 8 n).toNat : Int) = n := by
  rw [BitVec.toNat_ofInt]; omega
theorem frB_ep {f : Fr} : ((frB f).drop 5).take 4 = beN 4 f.ep := by
  rw [frB_eq]
  show List.take 4 (beN 4 f.ep ++ (beN 8 f.ct ++ (f.b ++ (f.tag ++ crcT f)))) = _
  rw [List.take_left' (beN_length _ _)]
theorem frB_ct {f : Fr} : ((frB f).drop 9).take 8 = beN 8 f.ct := by
  rw [frB_eq, ← List.append_assoc, List.drop_left' (by simp [beN_length]), List.take_left' (beN_length _ _)]
theorem frB_body {f : Fr} : ((frB f).drop 17).take f.b.length = f.b := by
  rw [frB_eq, ← List.append_assoc, ← List.append_assoc, List.drop_left' (by simp [beN_length]), List.take_left' rfl]
theorem frB_tag {f : Fr} (h : f.tag.length = 16) {i : Nat} (hi : i < 16) : (frB f)[17 + f.b.length + i]? = f.tag[i]? := by
  rw [frB_eq, ← List.append_assoc, ← List.append_assoc, ← List.append_assoc, List.getElem?_append_right (by simp [beN_length]; omega), List.getElem?_append_left (by simp [beN_length]; omega)]
  congr 1
  simp [beN_length]
  omega
theorem frB_crc (f : Fr) : (frB f).drop 2 = crcPut (BitVec.ofInt 8 ((f.signed ++ f.tag).length : Int) :: (f.signed ++ f.tag)) := rfl
theorem resW3 {P : Program} {w0 : World} {S : List Nat} {N : Nat} {E : Env} {I H : List It} {fn : Func} {tt uu xx : Tmp} {T C : TypeId} {b nn : Nat} {vs : List Value} {v2 v3 : Value} (hf : fn.results = #[.cell tt T, .tmp uu, .tmp xx]) (ht : E.get tt = some (.pointer (some ⟨b, 0, none⟩))) (hu : E.get uu = some v2) (hx : E.get xx = some v3) (hag : ∀ w, (isAgg T).run P w = .ok true w) (hs : ∀ w, (sizeOf T).run P w = .ok nn w) (hm : PK.cel b vs C ∈ H) (hl : vs.length = nn) :
    ∀ a w, Ag N a E → Cls w0 S I H w → (results fn a.tmps).run P w = .ok (.tuple #[.agg vs.toArray, v2, v3]) w := fun a w ha hC => by
  have h1 := run_isAggT (P := P) hag (by rw [hl]; exact hs) (Rds.all (I := I) hm w hC.s)
  simp [results, hf, ha.t tt _ ht, ha.t uu _ hu, ha.t xx _ hx, asAddr, h1]
def ReadR (f : Fr) : Value → List It → List It → Prop := fun v I' H' => ∃ ob cap, v = .tuple #[.agg (f.cells (slO ob f.b.length cap)).toArray, .int .i64 (37 + f.b.length : Int), .int .i64 0] ∧ I' = [] ∧ H' = [own ob cap 5 1 f.b.length (bytes f.b)]
theorem wrapV_u32 {n : Int} (h0 : 0 ≤ n) (h1 : n ≤ 4294967295) : Value.int .u32 (IntKind.u32.wrap n) = .int .u32 n := by
  congr 1
  simp [IntKind.wrap, IntKind.bits, IntKind.signed]
  omega
/-- A frame, its tag read so far. -/
def Fr.upto (f : Fr) (i : Nat) : Fr := { f with tag := f.tag.take i ++ List.replicate (16 - i) 0#8 }
theorem upto_len {f : Fr} (h : f.tag.length = 16) {i : Nat} (hi : i ≤ 16) (sl : Value) : ((f.upto i).cells sl).length = 21 := fr_len (by simp [Fr.upto, h]; omega) sl
theorem upto_sl {f : Fr} (sl sl' : Value) : spl ((f.upto 0).cells sl) (0 + 4) [sl'] = (f.upto 0).cells sl' := rfl
theorem upto_all {f : Fr} (h : f.tag.length = 16) : f.upto 16 = f := by
  have : f.tag.take 16 = f.tag := List.take_of_length_le (by omega)
  simp [Fr.upto, this]
theorem upto_step {f : Fr} (h : f.tag.length = 16) {i : Nat} {x : B8} (hi : i < 16) (hx : f.tag[i]? = some x) (sl : Value) : spl ((f.upto i).cells sl) (0 + 5 + i * 1) [.int .u8 (x.toNat : Int)] = (f.upto (i + 1)).cells sl := by
  have e : ∀ j, (f.upto j).cells sl = [.int .i64 f.kd, .int .i64 f.sr, .int .u32 (f.ep : Int), .int .u64 (f.ct : Int), sl] ++ (bytes (f.tag.take j) ++ List.replicate (16 - j) (U8 0#8)) := fun j => by simp [Fr.upto, Fr.cells]
  rw [e, e, ← mk_step hi h hx]
  rw [show 0 + 5 + i * 1 = 5 + (0 + i * 1) by omega]
  exact spl_app (k := 0 + i * 1) [.int .i64 f.kd, .int .i64 f.sr, .int .u32 (f.ep : Int), .int .u64 (f.ct : Int), sl]
theorem rread_any (b c n : Nat) (f : Fr) (hf : f.Fit) (hn : (frB f).length = n) (hc : n ≤ c) : Spc Tryz.prog 32 #[.slice (some ⟨b, 0, none⟩) n c] [sls (some ⟨b, 0, none⟩) 1 n (bytes (frB f))] [] (ReadR f) := by
  subst hn
  have h16 := hf.ok.tag
  have hpl := frB_len h16
  have hbl := hf.b
  have hep := hf.ok.ep
  have hct := hf.ok.ct
  have hst : (f.signed ++ f.tag).length = 30 + f.b.length := by rw [List.length_append, signed_len, h16]; omega
  refine Spc.enter Tryz.func32 rfl rfl rfl (fun w0 hw0 => ?_)
  refine CW.seq (CW.region (ef := [0]) (bk := []) (RL.alloc Tryz.zeroValue78 rfl rfl rfl rfl rfl ?_))
  intro b1
  refine RL.p rfl (RL.p rfl (RL.nil (NQ.seq (CW.seq (CW.seq (CW.sub (Lies.dropB (p := some ⟨b, 0, none⟩) (c := c) (lo := 2) (m := frB f) (by omega) hc) (List.Mem.head _) ?_))))))
  refine CW.genI (fun J hJ => ?_)
  have mC := hJ _ (List.Mem.head _)
  rw [frB_crc] at mC
  have m2 : sls (some ⟨b, 0, none⟩) 1 (frB f).length (bytes (frB f)) ∈ J := hJ _ (List.Mem.tail _ (List.Mem.head _))
  clear hJ
  have g0 : RdI J ⟨b, 0 + 0 * 1, none⟩ (.int .u8 165) := byte_rdI (j := 0) (x := 165#8) m2 (by rw [frB_eq]; rfl)
  have g1 : RdI J ⟨b, 0 + 1 * 1, none⟩ (.int .u8 90) := byte_rdI (j := 1) (x := 90#8) m2 (by rw [frB_eq]; rfl)
  have g2 : RdI J ⟨b, 0 + 2 * 1, none⟩ (.int .u8 (30 + f.b.length : Int)) := by
    have := byte_rdI (j := 2) m2 (x := BitVec.ofInt 8 ((f.signed ++ f.tag).length : Int)) (by rw [frB_eq]; rfl)
    rwa [byteN (by omega), show ((f.signed ++ f.tag).length : Int) = 30 + f.b.length by omega] at this
  have g3 : RdI J ⟨b, 0 + 3 * 1, none⟩ (.int .u8 f.kd) := by
    have := byte_rdI (j := 3) m2 (x := BitVec.ofInt 8 f.kd) (by rw [frB_eq]; rfl)
    rwa [byteN hf.kd] at this
  have g4 : RdI J ⟨b, 0 + 4 * 1, none⟩ (.int .u8 f.sr) := by
    have := byte_rdI (j := 4) m2 (x := BitVec.ofInt 8 f.sr) (by rw [frB_eq]; rfl)
    rwa [byteN hf.sr] at this
  have hk := hf.kd
  have hs := hf.sr
  have hcl : (crcPut (BitVec.ofInt 8 ((f.signed ++ f.tag).length : Int) :: (f.signed ++ f.tag))).length = (frB f).length - 2 := by rw [← frB_crc, List.length_drop]
  rw [hcl] at mC
  have hg5 := rget13 b c _ (frB f) rfl 5 4 (by omega) (by decide) (by omega)
  rw [frB_ep, num_beN, Nat.mod_eq_of_lt (show f.ep < 256 ^ 4 by omega)] at hg5
  have hg9 := rget13 b c _ (frB f) rfl 9 8 (by omega) (by decide) (by omega)
  rw [frB_ct, num_beN, Nat.mod_eq_of_lt (show f.ct < 256 ^ 8 by omega)] at hg9
  have hsrc : ∀ H, Src J H (if c = 17 then (some ⟨b, 0, none⟩ : Option Addr) else (some (⟨b, 0, none⟩ : Addr)).map (·.add (17 * 1))) (17 + f.b.length - 17) 1 (bytes f.b) := fun H => by
    have := Src.sub (lo := 17) (hi := 17 + f.b.length) (cap := c) (Src.sls (H := H) m2) (by omega) (by omega) (by omega)
    rwa [show ((bytes (frB f)).drop (17 * 1)).take ((17 + f.b.length - 17) * 1) = bytes (((frB f).drop 17).take f.b.length) by
      rw [show (17 + f.b.length - 17) * 1 = f.b.length by omega]; simp [List.map_take, List.map_drop], frB_body] at this
  refine CW.rg (RL.p rfl (RL.lenS Tryz.runUnderlying74 rfl rfl rfl rfl (RL.p rfl (RL.p rfl ?_))))
  apply RL.andB (d := 11) (dp := 16) (l' := (Sq.of [9, 10, 11, 12, 13, 14, 15, 16, 17, 18, 19, 20, 21, 22, 23, 24, 25, 26, 27, 28, 29, 30, 31, 32, 33, 34, 35, 36])) rfl (sK [0, 2, 3, 4] rfl)
  ·
    intro hb4 K4
    refine RL.p rfl (RL.idxAt (j := 0) Tryz.runUnderlying74 Tryz.sizeOf5 rfl rfl rfl rfl rfl rfl (by omega) ?_)
    refine RL.loadq Tryz.isAgg5 rfl rfl rfl rfl ?_
    refine RL.p rfl (RL.p rfl ?_)
    exact K4 _ (.cons rfl (sK [0, 2, 3, 4] rfl))
  ·
    intro hb4 K4
    refine RL.p rfl (RL.p rfl (RL.p rfl (RL.p rfl (RL.p rfl ?_))))
    exact K4 _ (.cons rfl (sK [0, 2, 3, 4] rfl))
  refine RL.p rfl ?_
  apply RL.orB (d := 17) (dp := 27) (l' := (Sq.of [20, 21, 22, 23, 24, 25, 26, 27, 28, 29, 30, 31, 32, 33, 34, 35, 36])) rfl (sK [0, 2, 3, 4] rfl)
  ·
    intro hb10 K10
    refine RL.p rfl (RL.lenS Tryz.runUnderlying74 rfl rfl rfl rfl (RL.p rfl (RL.p rfl ?_)))
    apply RL.andB (d := 21) (dp := 26) (l' := (Sq.of [19, 20, 21, 22, 23, 24, 25, 26, 27, 28, 29, 30, 31, 32, 33, 34, 35, 36])) rfl (sK [0, 2, 3, 4, 17] rfl)
    ·
      intro hb14 K14
      refine RL.p rfl (RL.idxAt (j := 1) Tryz.runUnderlying74 Tryz.sizeOf5 rfl rfl rfl rfl rfl rfl (by omega) ?_)
      refine RL.loadq Tryz.isAgg5 rfl rfl rfl rfl ?_
      refine RL.p rfl (RL.p rfl ?_)
      exact K14 _ (.cons rfl (sK [0, 2, 3, 4, 17] rfl))
    ·
      intro hb14 K14
      refine RL.p rfl (RL.p rfl (RL.p rfl (RL.p rfl (RL.p rfl ?_))))
      exact K14 _ (.cons rfl (sK [0, 2, 3, 4, 17] rfl))
    refine RL.p rfl ?_
    exact K10 _ (.cons rfl (sK [0, 2, 3, 4] rfl))
  ·
    intro hb10 K10
    refine RL.p rfl (RL.p rfl (RL.p rfl (RL.p rfl (RL.p rfl (RL.p rfl (RL.p rfl (RL.p rfl (RL.p rfl (RL.p rfl ?_)))))))))
    exact K10 _ (.cons rfl (sK [0, 2, 3, 4] rfl))
  refine RL.p rfl ?_
  apply RL.orB (d := 28) (dp := 44) (l' := (Sq.of [])) rfl (sK [0, 2, 3, 4] rfl)
  ·
    intro hb21 K21
    refine RL.p rfl (RL.lenS Tryz.runUnderlying74 rfl rfl rfl rfl (RL.p rfl (RL.p rfl ?_)))
    apply RL.andB (d := 32) (dp := 43) (l' := (Sq.of [36])) rfl (sK [0, 2, 3, 4, 28] rfl)
    ·
      intro hb25 K25
      refine RL.p rfl (RL.idxAt (j := 2) Tryz.runUnderlying74 Tryz.sizeOf5 rfl rfl rfl rfl rfl rfl (by omega) ?_)
      refine RL.loadq Tryz.isAgg5 rfl rfl rfl rfl ?_
      refine RL.p rfl (RL.p rfl ?_)
      apply RL.orB (d := 37) (dp := 42) (l' := (Sq.of [35, 36])) rfl (sK [0, 2, 3, 4, 28, 32] rfl)
      ·
        intro hb30 K30
        refine RL.p rfl (RL.idxAt (j := 2) Tryz.runUnderlying74 Tryz.sizeOf5 rfl rfl rfl rfl rfl rfl (by omega) ?_)
        refine RL.loadq Tryz.isAgg5 rfl rfl rfl rfl ?_
        refine RL.p rfl (RL.p rfl ?_)
        exact K30 _ (.cons rfl (sK [0, 2, 3, 4, 28, 32] rfl))
      ·
        intro hb30 K30
        refine RL.p rfl (RL.p rfl (RL.p rfl (RL.p rfl (RL.p rfl ?_))))
        exact K30 _ (.cons rfl (sK [0, 2, 3, 4, 28, 32] rfl))
      refine RL.p rfl ?_
      exact K25 _ (.cons rfl (sK [0, 2, 3, 4, 28] rfl))
    ·
      intro hb25 K25
      refine RL.p rfl (RL.p rfl (RL.p rfl (RL.p rfl (RL.p rfl (RL.p rfl (RL.p rfl (RL.p rfl (RL.p rfl (RL.p rfl (RL.p rfl ?_))))))))))
      exact K25 _ (.cons rfl (sK [0, 2, 3, 4, 28] rfl))
    refine RL.p rfl ?_
    exact K21 _ (.cons rfl (sK [0, 2, 3, 4] rfl))
  ·
    intro hb21 K21
    refine RL.p rfl (RL.p rfl (RL.p rfl (RL.p rfl (RL.p rfl (RL.p rfl (RL.p rfl (RL.p rfl (RL.p rfl (RL.p rfl (RL.p rfl (RL.p rfl (RL.p rfl (RL.p rfl ?_)))))))))))))
    refine RL.p rfl (RL.p rfl ?_)
    exact K21 _ (.cons rfl (sK [0, 2, 3, 4] rfl))
  refine RL.nil (NQ.seq (CW.condF rfl ((by simp; omega)) ?_))
  refine CW.skip (NQ.seq (CW.seq (CW.seq (CW.rg (RL.p rfl (RL.lenS Tryz.runUnderlying74 rfl rfl rfl rfl (RL.p rfl (RL.p rfl ?_))))))))
  apply RL.orB (d := 49) (dp := 58) (l' := (Sq.of [])) rfl (sK [0, 2, 3, 4] rfl)
  ·
    intro hb4 K4
    refine RL.p rfl (RL.lenS Tryz.runUnderlying74 rfl rfl rfl rfl (RL.p rfl (RL.idxAt (j := 2) Tryz.runUnderlying74 Tryz.sizeOf5 rfl rfl rfl rfl rfl rfl (by omega) ?_)))
    refine RL.loadq Tryz.isAgg5 rfl rfl rfl rfl ?_
    refine RL.conv Tryz.runUnderlying5 Tryz.runUnderlying3 rfl rfl rfl rfl (RL.cast (d := 55) rfl (wrapV_i64 (by omega) (by omega)) ?_)
    refine RL.bx rfl (wrapV_i64 (by omega) (by omega)) ?_
    refine RL.p rfl (RL.p rfl ?_)
    exact K4 _ (.cons rfl (sK [0, 2, 3, 4] rfl))
  ·
    intro hb4 K4
    refine RL.p rfl (RL.p rfl (RL.p rfl (RL.p rfl (RL.p rfl (RL.p rfl (RL.p rfl (RL.p rfl (RL.p rfl ?_))))))))
    exact K4 _ (.cons rfl (sK [0, 2, 3, 4] rfl))
  refine RL.nil (NQ.seq (CW.condF rfl ((by simp; omega)) ?_))
  refine CW.skip (NQ.seq (CW.seq (CW.rg (RL.p rfl (RL.idxAt (j := 2) Tryz.runUnderlying74 Tryz.sizeOf5 rfl rfl rfl rfl rfl rfl (by omega) ?_)))))
  refine RL.loadq Tryz.isAgg5 rfl rfl rfl rfl ?_
  refine RL.conv Tryz.runUnderlying5 Tryz.runUnderlying3 rfl rfl rfl rfl (RL.cast (d := 63) rfl (wrapV_i64 (by omega) (by omega)) ?_)
  refine RL.p rfl (RL.nil (NQ.seq (CW.ok [0, 2, 5] rfl (CW.seq (CW.seq (CW.rg (RL.p rfl (RL.p rfl (RL.bx rfl (wrapV_i64 (by omega) (by omega)) ?_)))))))))
  refine RL.cast (d := 66) (v' := .int .i64 ((frB f).length : Int)) rfl (by congr 1; omega) ?_
  refine RL.slice (lo := 2) (hi := (frB f).length) Tryz.runUnderlying74 Tryz.sizeOf5 rfl rfl rfl rfl rfl rfl (by omega) (by omega) ?_
  refine RL.callv (rright11 (if c = 2 then some ⟨b, 0, none⟩ else (some (⟨b, 0, none⟩ : Addr)).map (·.add (2 * 1))) (c - 2) ((frB f).length - 2) _ hcl (by omega) (by omega)) Tryz.call68 rfl rfl rfl rfl (.inI mC .nil) ?_
  refine RL.p rfl (RL.nil (NQ.seq (CW.condF rfl (rfl) (CW.skip (NQ.seq (CW.ok [0, 2, 5] rfl (CW.seq (CW.regionD (Sq.of [0, 1, 2, 3, 4, 5, 6, 7, 8, 9, 10, 11, 12, 13, 14, 15]) [14, 15] [15] [0, 1, 2, 3, 4, 5, 6, 7, 8, 9, 10, 11, 12, 13] mixed (by kernel_rfl) ?_))))))))
  refine RL.p rfl (RL.idxAt (j := 3) Tryz.runUnderlying74 Tryz.sizeOf5 rfl rfl rfl rfl rfl rfl (by omega) ?_)
  refine RL.loadTq Tryz.isAgg5 rfl rfl rfl rfl ?_
  refine RL.conv Tryz.runUnderlying5 Tryz.runUnderlying3 rfl rfl rfl rfl (RL.cast (d := 74) rfl (wrapV_i64 (by omega) (by omega)) ?_)
  refine RL.p rfl (RL.idxAt (j := 4) Tryz.runUnderlying74 Tryz.sizeOf5 rfl rfl rfl rfl rfl rfl (by omega) ?_)
  refine RL.loadTq Tryz.isAgg5 rfl rfl rfl rfl ?_
  refine RL.conv Tryz.runUnderlying5 Tryz.runUnderlying3 rfl rfl rfl rfl (RL.cast (d := 78) rfl (wrapV_i64 (by omega) (by omega)) ?_)
  refine RL.p rfl (RL.callvT (hg5) Tryz.call69 rfl rfl rfl rfl (.inI m2 .nil) (RL.conv Tryz.runUnderlying32 Tryz.runUnderlying61 rfl rfl rfl rfl (RL.cast (d := 81) rfl (wrapV_u32 (by omega) (by omega)) ?_)))
  refine RL.p rfl (RL.callvT (hg9) Tryz.call69 rfl rfl rfl rfl (.inI m2 .nil) (RL.buildS ((f.upto 0).cells (.slice none 0 0)) Tryz.zeroValue78 pl_78 rfl rfl rfl rfl rfl (RL.alloc Tryz.zeroValue78 rfl rfl rfl rfl rfl ?_)))
  intro b2
  refine RL.storeW Tryz.sizeOf78 rfl rfl rfl rfl rfl rfl rfl (ones_fr _ rfl) (by repeat (first | exact Upd.here | apply Upd.there)) (upto_len h16 (by decide) _) rfl ?_
  refine RL.nil (NQ.seq (CW.ok [0, 2, 5, 6] rfl (CW.seq (CW.region (ef := [0, 5, 7]) (bk := [5, 7]) (RL.buildOwn [] Tryz.runUnderlying74 Tryz.sizeOf5 Tryz.zeroValue5 rfl rfl (by decide) (by decide) rfl (by decide) rfl rfl rfl rfl rfl rfl ?_)))))
  intro oq
  refine RL.p rfl (RL.p rfl (RL.bx rfl (wrapV_i64 (by omega) (by omega)) ?_))
  refine RL.cast (d := 88) (v' := .int .i64 ((17 + f.b.length : Nat) : Int)) rfl (by congr 1; omega) ?_
  refine RL.slice (lo := 17) (hi := 17 + f.b.length) Tryz.runUnderlying74 Tryz.sizeOf5 rfl rfl rfl rfl rfl rfl (by omega) (by omega) ?_
  refine RL.appendA el_74 rfl rfl rfl rfl rfl rfl rfl (by first | exact ⟨(.take (Pick.none _)), rfl⟩ | exact ⟨(.leave (.take (Pick.none _))), rfl⟩ | exact ⟨(.leave (.leave (.take (Pick.none _)))), rfl⟩ | exact ⟨(.leave (.leave (.leave (.take (Pick.none _))))), rfl⟩ | exact ⟨(.leave (.leave (.leave (.leave (.take (Pick.none _)))))), rfl⟩ | exact ⟨(.leave (.leave (.leave (.leave (.leave (.take (Pick.none _))))))), rfl⟩ | exact ⟨(.leave (.leave (.leave (.leave (.leave (.leave (.take (Pick.none _)))))))), rfl⟩ | exact ⟨(.leave (.leave (.leave (.leave (.leave (.leave (.leave (.take (Pick.none _))))))))), rfl⟩ | exact ⟨(.leave (.leave (.leave (.leave (.leave (.leave (.leave (.leave (.take (Pick.none _)))))))))), rfl⟩ | exact ⟨(.leave (.leave (.leave (.leave (.leave (.leave (.leave (.leave (.leave (.take (Pick.none _))))))))))), rfl⟩) (hsrc _) (one_map one8 _) (by first | omega | (simp only [maxLen]; omega)) (by first | omega | (simp only [maxLen]; omega)) ?_
  intro ob1 cap1 ho1
  refine RL.fieldAddr fa_78_4 rfl rfl rfl rfl (RL.storeX (vs := [_]) (upto_sl _ _) Tryz.sizeOf74 rfl rfl rfl rfl rfl rfl rfl rfl (by repeat (first | exact Upd.here | apply Upd.there)) (by rw [upto_len h16 (by decide)]; show 0 + 4 + 1 ≤ 21; decide) ?_)
  refine RL.nil (NQ.seq (CW.ok [0, 2, 5, 6] rfl (CW.seq (CW.seq (CW.rg (RL.p rfl (RL.nil (NQ.seq (CW.block ?_)))))))))
  rw [show 0 + (17 + f.b.length - 17) = f.b.length by omega, List.nil_append]
  refine CW.loop (γ := Nat) (fun i => i ≤ 16) (fun i => [(0, .slice (some ⟨b, 0, none⟩) (frB f).length c), (2, .pointer (some ⟨b1, 0, none⟩)), (5, .int .i64 (30 + f.b.length : Int)), (6, .pointer (some ⟨b2, 0, none⟩)), (7, .int .i64 (i : Int))]) (fun _ => J)
    (fun i => [cel b2 ((f.upto i).cells (slO ob1 f.b.length cap1)) 78, own ob1 cap1 5 1 f.b.length (bytes f.b), cel b1 (fr0.cells (.slice none 0 0)) 78]) (fun i => 16 - i) 0 (Nat.zero_le _) (.cons rfl (.cons rfl (.cons rfl (.cons rfl (.cons rfl .nil))))) (fun w h => h.rea (fun _ h => by simpa using h) (by repeat (first | exact Rea.nil | (apply Rea.cons; (solve | (repeat (first | exact Del.here | apply Del.there))))))) ?_
  intro i hi
  refine CW.seq (CW.seq (CW.rg (RL.p rfl (RL.p rfl (RL.nil (NQ.seq ?_))))))
  refine CW.cond rfl (fun hlt => ?_) (fun hlt => ?_)
  ·
    have hlt : i < 16 := by simp at hlt; omega
    have hx := List.getElem?_eq_getElem (show i < f.tag.length by omega)
    generalize f.tag[i] = x at hx
    have hx2 : (frB f)[17 + f.b.length + i]? = some x := by rw [frB_tag h16 hlt]; exact hx
    have gx : RdI J ⟨b, 0 + (17 + f.b.length + i) * 1, none⟩ (.int .u8 (x.toNat : Int)) := byte_rdI m2 hx2
    refine CW.skip (NQ.seq (CW.seq (CW.block (CW.region (ef := [10]) (bk := [10]) (RL.p rfl (RL.p rfl (RL.p rfl (RL.bx rfl (wrapV_i64 (by omega) (by omega)) ?_))))))))
    refine RL.p rfl (RL.bx rfl (wrapV_i64 (by omega) (by omega)) ?_)
    refine RL.cast (d := 101) (v' := .int .i64 ((17 + f.b.length + i : Nat) : Int)) rfl (by congr 1; omega) ?_
    refine RL.idxAt (j := 17 + f.b.length + i) Tryz.runUnderlying74 Tryz.sizeOf5 rfl rfl rfl rfl rfl rfl (by omega) ?_
    refine RL.loadq Tryz.isAgg5 rfl rfl rfl rfl ?_
    refine RL.fieldAddr fa_78_5 rfl rfl rfl rfl (RL.idxAAt (j := i) Tryz.runUnderlying76 Tryz.sizeOf5 rfl rfl rfl rfl rfl rfl hlt (RL.storeX (vs := [_]) (upto_step h16 hlt hx _) Tryz.sizeOf5 rfl rfl rfl rfl rfl rfl rfl rfl (by repeat (first | exact Upd.here | apply Upd.there)) (by rw [upto_len h16 hi]; show 0 + 5 + i * 1 + 1 ≤ 21; omega) ?_))
    refine RL.nil (NQ.block (NQ.seq (CW.ok [0, 2, 5, 6, 7] rfl (CW.rg (RL.p rfl (RL.bx rfl (wrapV_i64 (by omega) (by omega)) ?_))))))
    refine RL.p rfl (RL.nil ?_)
    refine NQ.round (g := i) (i + 1) hlt (by show 16 - (i + 1) < 16 - i; omega) (.cons rfl (.cons rfl (.cons rfl (.cons rfl (.cons rfl .nil))))) (fun w h => h.rea (fun _ h => h) (by repeat (first | exact Rea.nil | (apply Rea.cons; (solve | (repeat (first | exact Del.here | apply Del.there)))))))
  ·
    have hin : i = 16 := by simp at hlt; omega
    subst hin
    rw [upto_all h16]
    have h21 := fun sl => fr_len h16 sl
    refine CW.exit (XQ.seq (XQ.seq (XQ.hit (NQ.seq (CW.seq (CW.region (ef := [3]) (bk := [3]) (RL.loadW Tryz.isAgg78 Tryz.sizeOf78 rfl rfl rfl rfl (by repeat (first | exact List.Mem.head _ | apply List.Mem.tail)) (h21 _) ?_)))))))
    refine RL.p rfl (RL.bx rfl (wrapV_i64 (by omega) (by omega)) ?_)
    refine RL.storeW Tryz.sizeOf78 rfl rfl rfl rfl rfl rfl rfl (ones_fr _ rfl) (by repeat (first | exact Upd.here | apply Upd.there)) (h21 _) rfl ?_
    refine RL.p rfl (RL.p rfl (RL.nil (NQ.seq (CW.ok [2, 3, 4] rfl (CW.ret ?_)))))
    exact RQ.post (resW3 rfl rfl rfl rfl Tryz.isAgg78 Tryz.sizeOf78 (List.Mem.tail _ (List.Mem.tail _ (List.Mem.head _))) (h21 _)) (.drop (.keep (.drop .nil))) ⟨ob1, cap1, by rw [show (7 + (30 + f.b.length) : Int) = 37 + f.b.length by omega], rfl, rfl⟩
end Go.Proofs.YtkineolcmdecjaaGreat

namespace Go.Proofs.YtkineolcmdecjaaGreat
open Go.PK
/-! ### Intervals -/
end Go.Proofs.YtkineolcmdecjaaGreat
