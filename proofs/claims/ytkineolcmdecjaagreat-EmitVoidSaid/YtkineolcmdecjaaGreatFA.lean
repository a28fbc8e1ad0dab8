import Derived.Test.YtkineolcmdecjaaGreatBase0
import Derived.Test.YtkineolcmdecjaaGreatKindMath
import Derived.Test.YtkineolcmdecjaaGreatConcatB
import Derived.Test.YtkineolcmdecjaaGreatMA
import Derived.Test.YtkineolcmdecjaaGreatOwnN
import Derived.Test.YtkineolcmdecjaaGreatFr0
import Derived.Test.YtkineolcmdecjaaGreatCB
namespace Go.Proofs.YtkineolcmdecjaaGreat
open Go.PK

/-- Bytes of one's own, so many. -/
def OwnM (n : Nat) (l : List B8) : Value → List It → List It → Prop := fun v I' H' => ∃ b, v = .slice (some ⟨b, 0, none⟩) n n ∧ I' = [] ∧ H' = [cel b (bytes l) 5]

theorem mk_step {l : List B8} {i n : Nat} (hi : i < n) {v : B8} (hl : l.length = n) (hv : l[i]? = some v) : spl (bytes (l.take i) ++ List.replicate (n - i) (U8 0#8)) (0 + i * 1) [U8 v] = bytes (l.take (i + 1)) ++ List.replicate (n - (i + 1)) (U8 0#8) := by
  have e : (bytes (l.take i)).length = i := by rw [List.length_map, List.length_take]; omega
  have h := spl_snoc (z := U8 0#8) (v := U8 v) (k := n - (i + 1)) (bytes (l.take i))
  rw [e] at h
  rw [show 0 + i * 1 = i by omega, show n - i = n - (i + 1) + 1 by omega, h]
  have hlt : i < l.length := by omega
  rw [List.getElem?_eq_getElem hlt, Option.some.injEq] at hv
  rw [List.take_succ_eq_append_getElem hlt, hv]
  simp
theorem fnum_any (N n : Nat) (h0 : 0 < n) (hn : n ≤ 8) : Spc Tryz.prog 151 #[.int .u64 (N : Int), .int .i64 (n : Int)] [] [] (OwnM n (beN n N)) := by
  refine Spc.enter Tryz.func151 rfl rfl rfl (fun w0 hw0 => ?_)
  refine CW.seq (CW.rg (RL.p rfl (RL.nil (NQ.seq (CW.seq (CW.region (ef := [1]) (bk := []) (RL.p rfl (RL.makeSlice (len := n) (zs := [U8 0#8]) Tryz.runUnderlying74 Tryz.sizeOf5 (ii := Tryz.t5) (by kernel_rfl) Tryz.zeroValue5 rfl rfl (by decide) h0 (by show n * 1 ≤ 1000000; omega) (by omega) rfl rfl rfl rfl rfl rfl rfl rfl ?_))))))))
  intro b1
  rw [reps_one]
  refine RL.p rfl (RL.nil (NQ.seq (CW.seq (CW.seq (CW.rg (RL.p rfl (RL.lenS Tryz.runUnderlying74 rfl rfl rfl rfl (RL.p rfl (RL.nil (NQ.seq (CW.block ?_)))))))))))
  refine CW.loop (γ := Nat) (fun i => i ≤ n) (fun i => [(0, .int .u64 (N : Int)), (1, .int .i64 (n : Int)), (5, .slice (some ⟨b1, 0, none⟩) n n), (10, .int .i64 (n : Int)), (11, .int .i64 (i : Int))]) (fun _ => [])
    (fun i => [cel b1 (bytes ((beN n N).take i) ++ List.replicate (n - i) (U8 0#8)) 5]) (fun i => n - i) 0 (by simp) (.cons rfl (.cons rfl (.cons rfl (.cons rfl (.cons rfl .nil))))) (fun w h => h) ?_
  intro i hi
  refine CW.seq (CW.rg (RL.p rfl (RL.nil (NQ.seq (CW.seq ?_)))))
  refine CW.cond rfl (fun hlt => ?_) (fun hlt => ?_)
  ·
    refine CW.skip (NQ.seq (CW.seq (CW.block (CW.seq (CW.rg (RL.p rfl (RL.p rfl (RL.nil (NQ.seq (CW.region (ef := [11]) (bk := [11]) (RL.p rfl (RL.p rfl (RL.p rfl ?_)))))))))))))
    refine RL.p rfl (RL.bx rfl (wrapV_i64 (by omega) (by omega)) ?_)
    refine RL.p rfl (RL.bx rfl (wrapV_i64 (by omega) (by omega)) ?_)
    refine RL.bx rfl (wrapV_i64 (by omega) (by omega)) ?_
    have hlt : i < n := by simp at hlt; omega
    refine RL.shr (8 * (n - 1 - i)) rfl rfl rfl rfl rfl (by omega) (by show 8 * (n - 1 - i) ≤ 64; omega) ?_
    refine RL.conv Tryz.runUnderlying32 Tryz.runUnderlying5 rfl rfl rfl rfl (RL.idxAt (j := i) Tryz.runUnderlying74 Tryz.sizeOf5 rfl rfl rfl rfl rfl rfl hlt ?_)
    rw [byteA]
    refine RL.storeX (vs := [_]) (mk_step (l := beN n N) hlt (beN_length _ _) (by rw [beN_get n N i hlt, Nat.pow_mul])) Tryz.sizeOf5 rfl rfl rfl rfl rfl rfl rfl rfl (by repeat (first | exact Upd.here | apply Upd.there)) (by simp [beN_length]; omega) ?_
    refine RL.nil (NQ.block (NQ.seq (CW.ok [0, 1, 5, 10, 11] rfl (CW.rg (RL.bx rfl (wrapV_i64 (by omega) (by omega)) ?_)))))
    refine RL.p rfl (RL.nil ?_)
    refine NQ.round (g := i) (i + 1) hlt (by show n - (i + 1) < n - i; omega) (.cons rfl (.cons rfl (.cons rfl (.cons rfl (.cons rfl .nil))))) (fun w h => h)
  ·
    refine CW.exit (XQ.seq (XQ.seq (XQ.hit (NQ.seq (CW.seq (CW.rg (RL.p rfl (RL.p rfl (RL.nil (NQ.seq (CW.ok [4] rfl (CW.ret ?_))))))))))))
    have hin : i = n := by simp at hlt; omega
    subst hin
    rw [Nat.sub_self, List.replicate_zero, List.append_nil, List.take_of_length_le (by rw [beN_length]; exact Nat.le_refl _)]
    exact RQ.post (res1 rfl rfl) (.keep .nil) ⟨b1, rfl, rfl, rfl⟩

end Go.Proofs.YtkineolcmdecjaaGreat

namespace Go.Proofs.YtkineolcmdecjaaGreat
open Go.PK

end Go.Proofs.YtkineolcmdecjaaGreat

namespace Go.Proofs.YtkineolcmdecjaaGreat
open Go.PK

/-- What is signed. -/
def Fr.signed (f : Fr) : List B8 := [BitVec.ofInt 8 f.kd, BitVec.ofInt 8 f.sr] ++ (beN 4 f.ep ++ (beN 8 f.ct ++ (f.b ++ [])))
theorem signed_len (f : Fr) : f.signed.length = 14 + f.b.length := by simp [Fr.signed, beN_length]; omega
/-- Bytes of one's own. -/
def OwnT (l : List B8) : Value → List It → List It → Prop := fun v I' H' => ∃ ob cap, v = slO ob l.length cap ∧ I' = [] ∧ H' = [own ob cap 5 1 l.length (bytes l)] ∧ True
theorem concatT (pp : Option Addr) (cap n : Nat) (ps : List Part) (l : List B8) (hn : ps.length = n) (hnb : n ≤ 1000000) (hj : joined ps = l) (hb : l.length ≤ 1000000) :
    Spc Tryz.prog 148 #[.slice pp n cap] (sls pp 1 n (ps.map Part.v) :: ps.map Part.i) [] (OwnT l) := fun w hw => by
  subst hj
  refine (concatB_any pp cap n ps hn hnb hb w hw).mono ?_
  rintro e w' ⟨v, I', H', he, ⟨ob, c, rfl, rfl, rfl⟩, h⟩
  exact ⟨_, _, _, he, ⟨ob, c, rfl, rfl, rfl, trivial⟩, h⟩
theorem fnumO (N n : Nat) (h0 : 0 < n) (hn : n ≤ 8) (v : Int) (hv : v = (N : Int)) : Spc Tryz.prog 151 #[.int .u64 v, .int .i64 (n : Int)] [] [] (OwnN n (beN n N)) := fun w hw => by
  subst hv
  refine (fnum_any N n h0 hn w hw).mono ?_
  rintro e w' ⟨v, I', H', he, ⟨b, rfl, rfl, rfl⟩, hk, hs, h1, h2⟩
  refine ⟨_, _, _, he, ⟨some b, n, rfl, rfl, rfl, .inr rfl⟩, hk, ⟨by simp, fun x hx => ?_, by simp [own], by simp⟩, fun c hc => h1 c hc, by simp⟩
  rw [List.mem_singleton.1 hx]
  exact cel_own (by simp [beN_length]) (by unfold maxLen; omega) w' (hs.h _ (List.Mem.head _))
theorem w64_id {n : Nat} (h : n < 18446744073709551616) : IntKind.u64.wrap (n : Int) = (n : Int) := by simp [IntKind.wrap, IntKind.bits, IntKind.signed]; omega
theorem signed_any (f : Fr) (p : Option Addr) (c n : Nat) (hf : f.Ok) (hn : f.b.length = n) (hb : n ≤ 900000) : Spc Tryz.prog 112 #[.agg (f.cells (.slice p n c)).toArray] [sls p 1 n (bytes f.b)] [] (OwnT f.signed) := by
  subst hn
  have hl := fr_len hf.tag (.slice p f.b.length c)
  refine Spc.enter Tryz.func112 rfl rfl rfl (fun w0 hw0 => ?_)
  refine CW.seq (CW.region (ef := [0]) (bk := []) (RL.box rfl rfl rfl rfl rfl rfl ?_))
  intro b1
  refine RL.p rfl (RL.nil (NQ.seq (CW.seq (CW.freezeP (A := [_]) (B := []) (.take .nil) rfl (CW.regionD (.cons 0 (.cons 1 (.cons 2 (.cons 3 (.cons 4 (.cons 5 (.cons 7 (.cons 8 (.cons 9 (.cons 11 (.cons 12 (.cons 14 (.cons 15 (.fork [6, 10] (fun k => (bif Nat.beq k 6 then (Sq.of [10, 13, 16, 17, 18]) else (.fork [6, 13] (fun k => (bif Nat.beq k 6 then (Sq.of [13, 16, 17, 18]) else (Sq.of [6, 16, 17, 18])))))))))))))))))))) [6, 10, 13, 16, 17] [] [0, 1, 2, 3, 4, 5, 7, 8, 9, 11, 12, 14, 15, 18] mixed (by kernel_rfl) ?_)))))
  refine RL.fieldAddr fa_78_0 rfl rfl rfl rfl (RL.loadTq Tryz.isAgg3 rfl rfl rfl rfl ?_)
  refine RL.lowest Tryz.runUnderlying3 Tryz.runUnderlying5 rfl rfl rfl rfl (RL.fieldAddr fa_78_1 rfl rfl rfl rfl (RL.loadTq Tryz.isAgg3 rfl rfl rfl rfl ?_))
  refine RL.lowest Tryz.runUnderlying3 Tryz.runUnderlying5 rfl rfl rfl rfl (RL.fieldAddr fa_78_2 rfl rfl rfl rfl (RL.loadTq Tryz.isAgg61 rfl rfl rfl rfl ?_))
  refine RL.conv Tryz.runUnderlying61 Tryz.runUnderlying32 rfl rfl rfl rfl (RL.fieldAddr fa_78_3 rfl rfl rfl rfl (RL.loadTq Tryz.isAgg32 rfl rfl rfl rfl ?_))
  refine RL.fieldAddr fa_78_4 rfl rfl rfl rfl (RL.loadTq Tryz.isAgg74 rfl rfl rfl rfl ?_)
  refine RL.fork ⟨?_, ?_, trivial⟩
  ·
    refine RL.buildSlice [_, _] Tryz.runUnderlying74 Tryz.sizeOf5 Tryz.zeroValue5 rfl rfl (by decide) (by decide) rfl rfl rfl rfl rfl rfl ?_
    intro b2
    refine RL.callq (fnumO f.ep 4 (by decide) (by decide) _ (w64_id (by have := hf.ep; omega))) Tryz.call151 rfl rfl rfl rfl rfl (.inl rfl) ?_
    rintro _ _ _ ⟨ob1, cap1, rfl, rfl, rfl, ho1⟩
    refine RL.callq (fnumO f.ct 8 (by decide) (by decide) _ rfl) Tryz.call151 rfl rfl rfl rfl rfl (.inl rfl) ?_
    rintro _ _ _ ⟨ob2, cap2, rfl, rfl, rfl, ho2⟩
    refine RL.buildSlice [_, _, _, _] Tryz.runUnderlying161 Tryz.sizeOf74 Tryz.zeroValue74 rfl rfl (by decide) (by decide) rfl rfl rfl rfl rfl rfl ?_
    intro b3
    refine RL.call (concatT (some ⟨b3, 0, none⟩) 4 4 [⟨some ⟨b2, 0, none⟩, 2, [BitVec.ofInt 8 f.kd, BitVec.ofInt 8 f.sr]⟩, ⟨ob1.map fun b => ⟨b, 0, none⟩, cap1, beN 4 f.ep⟩, ⟨ob2.map fun b => ⟨b, 0, none⟩, cap2, beN 8 f.ct⟩, ⟨p, c, f.b⟩] f.signed rfl (by decide) rfl (by rw [signed_len]; omega)) Tryz.call148 rfl rfl rfl rfl rfl (by repeat (first | exact Pick.nil | apply Pick.take | apply Pick.leave)) (Lend.allX (by repeat (first | exact List.Mem.head _ | apply List.Mem.tail)) rfl rfl (Lend.all (by repeat (first | exact List.Mem.head _ | apply List.Mem.tail)) rfl (Lend.own (by repeat (first | exact List.Mem.head _ | apply List.Mem.tail)) (Lend.own (by repeat (first | exact List.Mem.head _ | apply List.Mem.tail)) (.inI (by simp) .nil))))) (.inl rfl) ?_
    rintro _ _ _ ⟨ob3, cap3, rfl, rfl, rfl, ho3⟩
    refine RL.p rfl (RL.nil (NQ.seq (CW.ok [2] rfl (CW.ret ?_))))
    exact RQ.post (res1 rfl rfl) (.keep (Split.none _)) ⟨ob3, cap3, rfl, rfl, rfl, trivial⟩
  ·
    refine RL.callq (fnumO f.ep 4 (by decide) (by decide) _ (w64_id (by have := hf.ep; omega))) Tryz.call151 rfl rfl rfl rfl rfl (.inl rfl) ?_
    rintro _ _ _ ⟨ob1, cap1, rfl, rfl, rfl, ho1⟩
    refine RL.fork ⟨?_, ?_, trivial⟩
    ·
      refine RL.buildSlice [_, _] Tryz.runUnderlying74 Tryz.sizeOf5 Tryz.zeroValue5 rfl rfl (by decide) (by decide) rfl rfl rfl rfl rfl rfl ?_
      intro b2
      refine RL.callq (fnumO f.ct 8 (by decide) (by decide) _ rfl) Tryz.call151 rfl rfl rfl rfl rfl (.inl rfl) ?_
      rintro _ _ _ ⟨ob2, cap2, rfl, rfl, rfl, ho2⟩
      refine RL.buildSlice [_, _, _, _] Tryz.runUnderlying161 Tryz.sizeOf74 Tryz.zeroValue74 rfl rfl (by decide) (by decide) rfl rfl rfl rfl rfl rfl ?_
      intro b3
      refine RL.call (concatT (some ⟨b3, 0, none⟩) 4 4 [⟨some ⟨b2, 0, none⟩, 2, [BitVec.ofInt 8 f.kd, BitVec.ofInt 8 f.sr]⟩, ⟨ob1.map fun b => ⟨b, 0, none⟩, cap1, beN 4 f.ep⟩, ⟨ob2.map fun b => ⟨b, 0, none⟩, cap2, beN 8 f.ct⟩, ⟨p, c, f.b⟩] f.signed rfl (by decide) rfl (by rw [signed_len]; omega)) Tryz.call148 rfl rfl rfl rfl rfl (by repeat (first | exact Pick.nil | apply Pick.take | apply Pick.leave)) (Lend.allX (by repeat (first | exact List.Mem.head _ | apply List.Mem.tail)) rfl rfl (Lend.all (by repeat (first | exact List.Mem.head _ | apply List.Mem.tail)) rfl (Lend.own (by repeat (first | exact List.Mem.head _ | apply List.Mem.tail)) (Lend.own (by repeat (first | exact List.Mem.head _ | apply List.Mem.tail)) (.inI (by simp) .nil))))) (.inl rfl) ?_
      rintro _ _ _ ⟨ob3, cap3, rfl, rfl, rfl, ho3⟩
      refine RL.p rfl (RL.nil (NQ.seq (CW.ok [2] rfl (CW.ret ?_))))
      exact RQ.post (res1 rfl rfl) (.keep (Split.none _)) ⟨ob3, cap3, rfl, rfl, rfl, trivial⟩
    ·
      refine RL.callq (fnumO f.ct 8 (by decide) (by decide) _ rfl) Tryz.call151 rfl rfl rfl rfl rfl (.inl rfl) ?_
      rintro _ _ _ ⟨ob2, cap2, rfl, rfl, rfl, ho2⟩
      refine RL.buildSlice [_, _] Tryz.runUnderlying74 Tryz.sizeOf5 Tryz.zeroValue5 rfl rfl (by decide) (by decide) rfl rfl rfl rfl rfl rfl ?_
      intro b2
      refine RL.buildSlice [_, _, _, _] Tryz.runUnderlying161 Tryz.sizeOf74 Tryz.zeroValue74 rfl rfl (by decide) (by decide) rfl rfl rfl rfl rfl rfl ?_
      intro b3
      refine RL.call (concatT (some ⟨b3, 0, none⟩) 4 4 [⟨some ⟨b2, 0, none⟩, 2, [BitVec.ofInt 8 f.kd, BitVec.ofInt 8 f.sr]⟩, ⟨ob1.map fun b => ⟨b, 0, none⟩, cap1, beN 4 f.ep⟩, ⟨ob2.map fun b => ⟨b, 0, none⟩, cap2, beN 8 f.ct⟩, ⟨p, c, f.b⟩] f.signed rfl (by decide) rfl (by rw [signed_len]; omega)) Tryz.call148 rfl rfl rfl rfl rfl (by repeat (first | exact Pick.nil | apply Pick.take | apply Pick.leave)) (Lend.allX (by repeat (first | exact List.Mem.head _ | apply List.Mem.tail)) rfl rfl (Lend.all (by repeat (first | exact List.Mem.head _ | apply List.Mem.tail)) rfl (Lend.own (by repeat (first | exact List.Mem.head _ | apply List.Mem.tail)) (Lend.own (by repeat (first | exact List.Mem.head _ | apply List.Mem.tail)) (.inI (by simp) .nil))))) (.inl rfl) ?_
      rintro _ _ _ ⟨ob3, cap3, rfl, rfl, rfl, ho3⟩
      refine RL.p rfl (RL.nil (NQ.seq (CW.ok [2] rfl (CW.ret ?_))))
      exact RQ.post (res1 rfl rfl) (.keep (Split.none _)) ⟨ob3, cap3, rfl, rfl, rfl, trivial⟩
end Go.Proofs.YtkineolcmdecjaaGreat

namespace Go.Proofs.YtkineolcmdecjaaGreat
open Go.PK

end Go.Proofs.YtkineolcmdecjaaGreat

namespace Go.Proofs.YtkineolcmdecjaaGreat
open Go.PK

/-- A frame with its tag. -/
def Fr.sign (f : Fr) (k : List B8) : Fr := { f with tag := macTag (deriveK k epochL f.ep) f.signed }
theorem sign_seg (f : Fr) (sl : Value) : f.cells sl = [.int .i64 f.kd, .int .i64 f.sr, .int .u32 (f.ep : Int), .int .u64 (f.ct : Int), sl] ++ (bytes f.tag ++ []) := by simp [Fr.cells]
theorem Fr.sign_ok {f : Fr} (h : f.Ok) (k : List B8) : (f.sign k).Ok := ⟨h.ep, h.ct, macTag_len _ _⟩
theorem sign_any (f : Fr) (k : List B8) (p : Option Addr) (c n : Nat) (hk : k.length = 32) (hf : f.Ok) (hn : f.b.length = n) (hb : n ≤ 900000) : Spc Tryz.prog 101 #[.agg (bytes k).toArray, .agg (f.cells (.slice p n c)).toArray] [sls p 1 n (bytes f.b)] [] (Is (.agg ((f.sign k).cells (.slice p n c)).toArray)) := by
  have hl := fr_len hf.tag (.slice p n c)
  have hl2 := fr_len (f.sign_ok hf k).tag (.slice p n c)
  have hsl := signed_len f
  refine Spc.enter Tryz.func101 rfl rfl rfl (fun w0 hw0 => ?_)
  refine CW.seq (CW.region (ef := [0, 1, 2]) (bk := []) (RL.box rfl rfl rfl rfl rfl rfl ?_))
  intro b1
  refine RL.box rfl rfl rfl rfl rfl rfl ?_
  intro b2
  refine RL.alloc Tryz.zeroValue78 rfl rfl rfl rfl rfl ?_
  intro b3
  refine RL.nil (NQ.seq (CW.seq (CW.regionD (Sq.of [0, 1, 2, 3, 4, 5, 6, 7, 8, 9, 10]) [6, 7, 10] [10] [1, 3, 9] mixed (by kernel_rfl) ?_)))
  refine RL.loadSq Tryz.isAgg31 Tryz.sizeOf31 rfl rfl rfl rfl ?_
  refine RL.fieldAddr fa_78_2 rfl rfl rfl rfl (RL.loadq Tryz.isAgg61 rfl rfl rfl rfl ?_)
  refine RL.conv Tryz.runUnderlying61 Tryz.runUnderlying32 rfl rfl rfl rfl (RL.callvq (derive_w k hk epochL (by decide) f.ep hf.ep) Tryz.call140 rfl rfl rfl rfl ?_)
  refine RL.loadSq Tryz.isAgg78 Tryz.sizeOf78 rfl rfl rfl rfl ?_
  refine RL.callq (signed_any f p c n hf hn hb) Tryz.call112 rfl rfl rfl rfl rfl (.inl rfl) ?_
  rintro _ _ _ ⟨ob1, cap1, rfl, rfl, rfl, ho1⟩
  refine RL.buildSlice [_] Tryz.runUnderlying161 Tryz.sizeOf74 Tryz.zeroValue74 rfl rfl (by decide) (by decide) rfl rfl rfl rfl rfl rfl ?_
  intro b4
  refine RL.callv (tag_any (deriveK k epochL f.ep) (derive_len _ _ _) (some ⟨b4, 0, none⟩) 1 1 [⟨ob1.map fun b => ⟨b, 0, none⟩, cap1, f.signed⟩] rfl (by decide) (by simp [joined]; omega)) Tryz.call110 rfl rfl rfl rfl (Lend.allX (by repeat (first | exact List.Mem.head _ | apply List.Mem.tail)) rfl rfl (Lend.own (by repeat (first | exact List.Mem.head _ | apply List.Mem.tail)) .nil)) ?_
  refine RL.fieldAddr fa_78_5 rfl rfl rfl rfl ?_
  rw [show joined [⟨ob1.map fun b => ⟨b, 0, none⟩, cap1, f.signed⟩] = f.signed by simp [joined]]
  refine RL.storeSeg (cs := f.cells (.slice p n c)) (cs' := (f.sign k).cells (.slice p n c)) (vs := bytes (macTag (deriveK k epochL f.ep) f.signed)) [.int .i64 f.kd, .int .i64 f.sr, .int .u32 (f.ep : Int), .int .u64 (f.ct : Int), .slice p n c] (bytes f.tag) [] Tryz.sizeOf76 rfl rfl rfl rfl rfl rfl rfl (ones_map one8 _) (sign_seg f _) (by rw [sign_seg]; rfl) rfl (by rw [List.length_map, hf.tag]) (by rw [List.length_map, macTag_len]) (by repeat (first | exact Upd.here | apply Upd.there)) ?_
  refine RL.nil (NQ.seq (CW.ok [3, 4] rfl (CW.seq (CW.region (ef := [1]) (bk := [1]) (RL.loadSq Tryz.isAgg78 Tryz.sizeOf78 rfl rfl rfl rfl ?_)))))
  refine RL.storeW Tryz.sizeOf78 rfl rfl rfl rfl rfl rfl rfl (ones_fr _ rfl) (by repeat (first | exact Upd.here | apply Upd.there)) hl2 rfl ?_
  refine RL.nil (NQ.seq (CW.ret ?_))
  exact RQ.post (resW rfl rfl Tryz.isAgg78 Tryz.sizeOf78 (by repeat (first | exact List.Mem.head _ | apply List.Mem.tail)) hl2) (Split.none _) ⟨rfl, rfl, rfl⟩
end Go.Proofs.YtkineolcmdecjaaGreat
