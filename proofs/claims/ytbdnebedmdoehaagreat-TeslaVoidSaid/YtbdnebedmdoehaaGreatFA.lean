import Derived.Test.YtbdnebedmdoehaaGreatBase0
import Derived.Test.YtbdnebedmdoehaaGreatKindMath
import Derived.Test.YtbdnebedmdoehaaGreatConcatB
import Derived.Test.YtbdnebedmdoehaaGreatMA
import Derived.Test.YtbdnebedmdoehaaGreatOwnN
import Derived.Test.YtbdnebedmdoehaaGreatFr0
import Derived.Test.YtbdnebedmdoehaaGreatCB
namespace Go.Proofs.YtbdnebedmdoehaaGreat
open Go.PK

/-- Bytes of one's own, so many. -/
def OwnM (n : Nat) (l : List B8) : Value → List It → List It → Prop := fun v I' H' => ∃ b, v = .slice (some ⟨b, 0, none⟩) n n ∧ I' = [] ∧ H' = [cel b (bytes l) 5]

theorem mk_step {l : List B8} {i n : Nat} (hi : i < n) {v : B8} (hl : l.length = n) (hv : l[i]? = some v) : spl (bytes (l.take i) ++ List.replicate (n - i) (U8 0#8)) (0 + i * 1) [U8 v] = bytes (l.take (i + 1)) ++ List.replicate (n - (i + 1)) (U8 0#8) := by
  have e : (bytes (l.take i)).length = i := by rw [List.length_map, List.length_take]; omega
  have h := spl_snoc (z := U8 0#8) (v := U8 v) (k := n - (i + 1)) (bytes (l.take i))
  rw [e] at h
  rw [show 0 + i * 1 = i by omega, show n - i = n - (i + 1) + 1 by omega, h]
  have hlt : i < l.length := by omega
  rw [List.getElem?_eq_getElem hlt, Option.some.injEq] at hv
  rw [List.take_succ_eq_append_getElem hlt, hv]
  simp
theorem fnum_any (N n : Nat) (h0 : 0 < n) (hn : n ≤ 8) : Spc Tryz.prog 62 #[.int .u64 (N : Int), .int .i64 (n : Int)] [] [] (OwnM n (beN n N)) := by
  refine Spc.enter Tryz.func62 rfl rfl rfl (fun w0 hw0 => ?_)
  refine CW.seq ?_
  refine CW.region (ef := []) (bk := []) ?_
  refine RL.assign rfl rfl rfl rfl ?_
  refine RL.nil ?_
  refine NQ.seq ?_
  refine CW.seq ?_
  refine CW.region (ef := [1]) (bk := []) ?_
  refine RL.move rfl rfl rfl rfl ?_
  refine RL.makeSlice (len := n) (zs := [U8 0#8]) Tryz.runUnderlying26 Tryz.sizeOf5 (ii := Tryz.t5) (by kernel_rfl) Tryz.zeroValue5 rfl rfl (by decide) h0 (by show n * 1 ≤ 1000000; omega) (by omega) rfl rfl rfl rfl rfl rfl rfl rfl ?_
  intro b1
  rw [reps_one]
  refine RL.assign rfl rfl rfl rfl ?_
  refine RL.nil ?_
  refine NQ.seq ?_
  refine CW.seq ?_
  refine CW.seq ?_
  refine CW.region (ef := []) (bk := []) ?_
  refine RL.move rfl rfl rfl rfl ?_
  refine RL.lenS Tryz.runUnderlying26 rfl rfl rfl rfl ?_
  refine RL.move rfl rfl rfl rfl ?_
  refine RL.nil ?_
  refine NQ.seq ?_
  refine CW.block ?_
  refine CW.loop (γ := Nat) (fun i => i ≤ n) (fun i => [(0, .int .u64 (N : Int)), (1, .int .i64 (n : Int)), (5, .slice (some ⟨b1, 0, none⟩) n n), (10, .int .i64 (n : Int)), (11, .int .i64 (i : Int))]) (fun _ => [])
    (fun i => [cel b1 (bytes ((beN n N).take i) ++ List.replicate (n - i) (U8 0#8)) 5]) (fun i => n - i) 0 (by simp) (.cons rfl (.cons rfl (.cons rfl (.cons rfl (.cons rfl .nil))))) (fun w h => h) ?_
  intro i hi
  refine CW.seq ?_
  refine CW.region (ef := []) (bk := []) ?_
  refine RL.bin rfl rfl rfl rfl rfl rfl ?_
  refine RL.nil ?_
  refine NQ.seq ?_
  refine CW.seq ?_
  refine CW.cond rfl (fun hlt => ?_) (fun hlt => ?_)
  ·
    refine CW.skip ?_
    refine NQ.seq ?_
    refine CW.seq ?_
    refine CW.block ?_
    refine CW.seq ?_
    refine CW.region (ef := []) (bk := []) ?_
    refine RL.move rfl rfl rfl rfl ?_
    refine RL.assign rfl rfl rfl rfl ?_
    refine RL.nil ?_
    refine NQ.seq ?_
    refine CW.region (ef := [11]) (bk := [11]) ?_
    refine RL.move rfl rfl rfl rfl ?_
    refine RL.move rfl rfl rfl rfl ?_
    refine RL.move rfl rfl rfl rfl ?_
    refine RL.move rfl rfl rfl rfl ?_
    refine RL.binX rfl rfl rfl rfl rfl rfl (wrapV_i64 (by omega) (by omega)) ?_
    refine RL.move rfl rfl rfl rfl ?_
    refine RL.binX rfl rfl rfl rfl rfl rfl (wrapV_i64 (by omega) (by omega)) ?_
    refine RL.binX rfl rfl rfl rfl rfl rfl (wrapV_i64 (by omega) (by omega)) ?_
    have hlt : i < n := by simp at hlt; omega
    refine RL.shr (8 * (n - 1 - i)) rfl rfl rfl rfl rfl (by omega) (by show 8 * (n - 1 - i) ≤ 64; omega) ?_
    refine RL.conv Tryz.runUnderlying25 Tryz.runUnderlying5 rfl rfl rfl rfl ?_
    refine RL.idxAt (j := i) Tryz.runUnderlying26 Tryz.sizeOf5 rfl rfl rfl rfl rfl rfl hlt ?_
    rw [byteA]
    refine RL.storeX (vs := [_]) (mk_step (l := beN n N) hlt (beN_length _ _) (by rw [beN_get n N i hlt, Nat.pow_mul])) Tryz.sizeOf5 rfl rfl rfl rfl rfl rfl rfl rfl (by repeat (first | exact Upd.here | apply Upd.there)) (by simp [beN_length]; omega) ?_
    refine RL.nil ?_
    refine NQ.block ?_
    refine NQ.seq ?_
    refine CW.only (.cons (k := 0) rfl (.cons (k := 1) rfl (.cons (k := 5) rfl (.cons (k := 10) rfl (.cons (k := 11) rfl .nil))))) ?_
    refine CW.region (ef := []) (bk := []) ?_
    refine RL.binX rfl rfl rfl rfl rfl rfl (wrapV_i64 (by omega) (by omega)) ?_
    refine RL.move rfl rfl rfl rfl ?_
    refine RL.nil ?_
    refine NQ.round (g := i) (i + 1) hlt (by show n - (i + 1) < n - i; omega) (.cons rfl (.cons rfl (.cons rfl (.cons rfl (.cons rfl .nil))))) (fun w h => h)
  ·
    refine CW.exit ?_
    refine XQ.seq ?_
    refine XQ.seq ?_
    refine XQ.hit ?_
    refine NQ.seq ?_
    refine CW.seq ?_
    refine CW.region (ef := []) (bk := []) ?_
    refine RL.move rfl rfl rfl rfl ?_
    refine RL.assign rfl rfl rfl rfl ?_
    refine RL.nil ?_
    refine NQ.seq ?_
    refine CW.only (.cons (k := 4) rfl .nil) ?_
    refine CW.ret ?_
    have hin : i = n := by simp at hlt; omega
    subst hin
    rw [Nat.sub_self, List.replicate_zero, List.append_nil, List.take_of_length_le (by rw [beN_length]; exact Nat.le_refl _)]
    exact RQ.post (res1 rfl rfl) (.keep .nil) ⟨b1, rfl, rfl, rfl⟩

end Go.Proofs.YtbdnebedmdoehaaGreat

namespace Go.Proofs.YtbdnebedmdoehaaGreat
open Go.PK

end Go.Proofs.YtbdnebedmdoehaaGreat

namespace Go.Proofs.YtbdnebedmdoehaaGreat
open Go.PK

/-- What is signed. -/
def Fr.signed (f : Fr) : List B8 := [BitVec.ofInt 8 f.kd, BitVec.ofInt 8 f.sr] ++ (beN 4 f.ep ++ (beN 8 f.ct ++ (f.b ++ [])))
theorem signed_len (f : Fr) : f.signed.length = 14 + f.b.length := by simp [Fr.signed, beN_length]; omega
/-- Bytes of one's own. -/
def OwnT (l : List B8) : Value → List It → List It → Prop := fun v I' H' => ∃ ob cap, v = slO ob l.length cap ∧ I' = [] ∧ H' = [own ob cap 5 1 l.length (bytes l)] ∧ True
theorem concatT (pp : Option Addr) (cap n : Nat) (ps : List Part) (l : List B8) (hn : ps.length = n) (hnb : n ≤ 1000000) (hj : joined ps = l) (hb : l.length ≤ 1000000) :
    Spc Tryz.prog 61 #[.slice pp n cap] (sls pp 1 n (ps.map Part.v) :: ps.map Part.i) [] (OwnT l) := fun w hw => by
  subst hj
  refine (concatB_any pp cap n ps hn hnb hb w hw).mono ?_
  rintro e w' ⟨v, I', H', he, ⟨ob, c, rfl, rfl, rfl⟩, h⟩
  exact ⟨_, _, _, he, ⟨ob, c, rfl, rfl, rfl, trivial⟩, h⟩
theorem fnumO (N n : Nat) (h0 : 0 < n) (hn : n ≤ 8) (v : Int) (hv : v = (N : Int)) : Spc Tryz.prog 62 #[.int .u64 v, .int .i64 (n : Int)] [] [] (OwnN n (beN n N)) := fun w hw => by
  subst hv
  refine (fnum_any N n h0 hn w hw).mono ?_
  rintro e w' ⟨v, I', H', he, ⟨b, rfl, rfl, rfl⟩, hk, hs, h1, h2⟩
  refine ⟨_, _, _, he, ⟨some b, n, rfl, rfl, rfl, .inr rfl⟩, hk, ⟨by simp, fun x hx => ?_, by simp [own], by simp⟩, fun c hc => h1 c hc, by simp⟩
  rw [List.mem_singleton.1 hx]
  exact cel_own (by simp [beN_length]) (by unfold maxLen; omega) w' (hs.h _ (List.Mem.head _))
theorem w64_id {n : Nat} (h : n < 18446744073709551616) : IntKind.u64.wrap (n : Int) = (n : Int) := by simp [IntKind.wrap, IntKind.bits, IntKind.signed]; omega
theorem signed_any (f : Fr) (p : Option Addr) (c n : Nat) (hf : f.Ok) (hn : f.b.length = n) (hb : n ≤ 900000) : Spc Tryz.prog 34 #[.agg (f.cells (.slice p n c)).toArray] [sls p 1 n (bytes f.b)] [] (OwnT f.signed) := by
  subst hn
  have hl := fr_len hf.tag (.slice p f.b.length c)
  refine Spc.enter Tryz.func34 rfl rfl rfl (fun w0 hw0 => ?_)
  refine CW.seq ?_
  refine CW.region (ef := [0]) (bk := []) ?_
  refine RL.box rfl rfl rfl rfl rfl rfl ?_
  intro b1
  refine RL.assign rfl rfl rfl rfl ?_
  refine RL.nil ?_
  refine NQ.seq ?_
  refine CW.seq ?_
  refine CW.freezeP (A := [_]) (B := []) (.take .nil) rfl ?_
  refine CW.regionD (.cons 0 (.cons 1 (.cons 2 (.cons 3 (.cons 4 (.cons 5 (.cons 7 (.cons 8 (.cons 9 (.cons 11 (.cons 12 (.cons 14 (.cons 15 (.fork [6, 10] (fun k => (bif Nat.beq k 6 then (Sq.of [10, 13, 16, 17, 18]) else (.fork [6, 13] (fun k => (bif Nat.beq k 6 then (Sq.of [13, 16, 17, 18]) else (Sq.of [6, 16, 17, 18])))))))))))))))))))) [6, 10, 13, 16, 17] [] [0, 1, 2, 3, 4, 5, 7, 8, 9, 11, 12, 14, 15, 18] mixed (by kernel_rfl) ?_
  refine RL.fieldAddr fa_30_0 rfl rfl rfl rfl ?_
  refine RL.loadTq Tryz.isAgg3 rfl rfl rfl rfl ?_
  refine RL.lowest Tryz.runUnderlying3 Tryz.runUnderlying5 rfl rfl rfl rfl ?_
  refine RL.fieldAddr fa_30_1 rfl rfl rfl rfl ?_
  refine RL.loadTq Tryz.isAgg3 rfl rfl rfl rfl ?_
  refine RL.lowest Tryz.runUnderlying3 Tryz.runUnderlying5 rfl rfl rfl rfl ?_
  refine RL.fieldAddr fa_30_2 rfl rfl rfl rfl ?_
  refine RL.loadTq Tryz.isAgg24 rfl rfl rfl rfl ?_
  refine RL.conv Tryz.runUnderlying24 Tryz.runUnderlying25 rfl rfl rfl rfl ?_
  refine RL.fieldAddr fa_30_3 rfl rfl rfl rfl ?_
  refine RL.loadTq Tryz.isAgg25 rfl rfl rfl rfl ?_
  refine RL.fieldAddr fa_30_4 rfl rfl rfl rfl ?_
  refine RL.loadTq Tryz.isAgg26 rfl rfl rfl rfl ?_
  refine RL.fork ⟨?_, ?_, trivial⟩
  ·
    refine RL.buildSlice [_, _] Tryz.runUnderlying26 Tryz.sizeOf5 Tryz.zeroValue5 rfl rfl (by decide) (by decide) rfl rfl rfl rfl rfl rfl ?_
    intro b2
    refine RL.callq (fnumO f.ep 4 (by decide) (by decide) _ (w64_id (by have := hf.ep; omega))) Tryz.call62 rfl rfl rfl rfl rfl (.inl rfl) ?_
    rintro _ _ _ ⟨ob1, cap1, rfl, rfl, rfl, ho1⟩
    refine RL.callq (fnumO f.ct 8 (by decide) (by decide) _ rfl) Tryz.call62 rfl rfl rfl rfl rfl (.inl rfl) ?_
    rintro _ _ _ ⟨ob2, cap2, rfl, rfl, rfl, ho2⟩
    refine RL.buildSlice [_, _, _, _] Tryz.runUnderlying123 Tryz.sizeOf26 Tryz.zeroValue26 rfl rfl (by decide) (by decide) rfl rfl rfl rfl rfl rfl ?_
    intro b3
    refine RL.call (concatT (some ⟨b3, 0, none⟩) 4 4 [⟨some ⟨b2, 0, none⟩, 2, [BitVec.ofInt 8 f.kd, BitVec.ofInt 8 f.sr]⟩, ⟨ob1.map fun b => ⟨b, 0, none⟩, cap1, beN 4 f.ep⟩, ⟨ob2.map fun b => ⟨b, 0, none⟩, cap2, beN 8 f.ct⟩, ⟨p, c, f.b⟩] f.signed rfl (by decide) rfl (by rw [signed_len]; omega)) Tryz.call61 rfl rfl rfl rfl rfl (by repeat (first | exact Pick.nil | apply Pick.take | apply Pick.leave)) (Lend.allX (by repeat (first | exact List.Mem.head _ | apply List.Mem.tail)) rfl rfl (Lend.all (by repeat (first | exact List.Mem.head _ | apply List.Mem.tail)) rfl (Lend.own (by repeat (first | exact List.Mem.head _ | apply List.Mem.tail)) (Lend.own (by repeat (first | exact List.Mem.head _ | apply List.Mem.tail)) (.inI (by simp) .nil))))) (.inl rfl) ?_
    rintro _ _ _ ⟨ob3, cap3, rfl, rfl, rfl, ho3⟩
    refine RL.assign rfl rfl rfl rfl ?_
    refine RL.nil ?_
    refine NQ.seq ?_
    refine CW.only (.cons (k := 2) rfl .nil) ?_
    refine CW.ret ?_
    exact RQ.post (res1 rfl rfl) (.keep (Split.none _)) ⟨ob3, cap3, rfl, rfl, rfl, trivial⟩
  ·
    refine RL.callq (fnumO f.ep 4 (by decide) (by decide) _ (w64_id (by have := hf.ep; omega))) Tryz.call62 rfl rfl rfl rfl rfl (.inl rfl) ?_
    rintro _ _ _ ⟨ob1, cap1, rfl, rfl, rfl, ho1⟩
    refine RL.fork ⟨?_, ?_, trivial⟩
    ·
      refine RL.buildSlice [_, _] Tryz.runUnderlying26 Tryz.sizeOf5 Tryz.zeroValue5 rfl rfl (by decide) (by decide) rfl rfl rfl rfl rfl rfl ?_
      intro b2
      refine RL.callq (fnumO f.ct 8 (by decide) (by decide) _ rfl) Tryz.call62 rfl rfl rfl rfl rfl (.inl rfl) ?_
      rintro _ _ _ ⟨ob2, cap2, rfl, rfl, rfl, ho2⟩
      refine RL.buildSlice [_, _, _, _] Tryz.runUnderlying123 Tryz.sizeOf26 Tryz.zeroValue26 rfl rfl (by decide) (by decide) rfl rfl rfl rfl rfl rfl ?_
      intro b3
      refine RL.call (concatT (some ⟨b3, 0, none⟩) 4 4 [⟨some ⟨b2, 0, none⟩, 2, [BitVec.ofInt 8 f.kd, BitVec.ofInt 8 f.sr]⟩, ⟨ob1.map fun b => ⟨b, 0, none⟩, cap1, beN 4 f.ep⟩, ⟨ob2.map fun b => ⟨b, 0, none⟩, cap2, beN 8 f.ct⟩, ⟨p, c, f.b⟩] f.signed rfl (by decide) rfl (by rw [signed_len]; omega)) Tryz.call61 rfl rfl rfl rfl rfl (by repeat (first | exact Pick.nil | apply Pick.take | apply Pick.leave)) (Lend.allX (by repeat (first | exact List.Mem.head _ | apply List.Mem.tail)) rfl rfl (Lend.all (by repeat (first | exact List.Mem.head _ | apply List.Mem.tail)) rfl (Lend.own (by repeat (first | exact List.Mem.head _ | apply List.Mem.tail)) (Lend.own (by repeat (first | exact List.Mem.head _ | apply List.Mem.tail)) (.inI (by simp) .nil))))) (.inl rfl) ?_
      rintro _ _ _ ⟨ob3, cap3, rfl, rfl, rfl, ho3⟩
      refine RL.assign rfl rfl rfl rfl ?_
      refine RL.nil ?_
      refine NQ.seq ?_
      refine CW.only (.cons (k := 2) rfl .nil) ?_
      refine CW.ret ?_
      exact RQ.post (res1 rfl rfl) (.keep (Split.none _)) ⟨ob3, cap3, rfl, rfl, rfl, trivial⟩
    ·
      refine RL.callq (fnumO f.ct 8 (by decide) (by decide) _ rfl) Tryz.call62 rfl rfl rfl rfl rfl (.inl rfl) ?_
      rintro _ _ _ ⟨ob2, cap2, rfl, rfl, rfl, ho2⟩
      refine RL.buildSlice [_, _] Tryz.runUnderlying26 Tryz.sizeOf5 Tryz.zeroValue5 rfl rfl (by decide) (by decide) rfl rfl rfl rfl rfl rfl ?_
      intro b2
      refine RL.buildSlice [_, _, _, _] Tryz.runUnderlying123 Tryz.sizeOf26 Tryz.zeroValue26 rfl rfl (by decide) (by decide) rfl rfl rfl rfl rfl rfl ?_
      intro b3
      refine RL.call (concatT (some ⟨b3, 0, none⟩) 4 4 [⟨some ⟨b2, 0, none⟩, 2, [BitVec.ofInt 8 f.kd, BitVec.ofInt 8 f.sr]⟩, ⟨ob1.map fun b => ⟨b, 0, none⟩, cap1, beN 4 f.ep⟩, ⟨ob2.map fun b => ⟨b, 0, none⟩, cap2, beN 8 f.ct⟩, ⟨p, c, f.b⟩] f.signed rfl (by decide) rfl (by rw [signed_len]; omega)) Tryz.call61 rfl rfl rfl rfl rfl (by repeat (first | exact Pick.nil | apply Pick.take | apply Pick.leave)) (Lend.allX (by repeat (first | exact List.Mem.head _ | apply List.Mem.tail)) rfl rfl (Lend.all (by repeat (first | exact List.Mem.head _ | apply List.Mem.tail)) rfl (Lend.own (by repeat (first | exact List.Mem.head _ | apply List.Mem.tail)) (Lend.own (by repeat (first | exact List.Mem.head _ | apply List.Mem.tail)) (.inI (by simp) .nil))))) (.inl rfl) ?_
      rintro _ _ _ ⟨ob3, cap3, rfl, rfl, rfl, ho3⟩
      refine RL.assign rfl rfl rfl rfl ?_
      refine RL.nil ?_
      refine NQ.seq ?_
      refine CW.only (.cons (k := 2) rfl .nil) ?_
      refine CW.ret ?_
      exact RQ.post (res1 rfl rfl) (.keep (Split.none _)) ⟨ob3, cap3, rfl, rfl, rfl, trivial⟩
end Go.Proofs.YtbdnebedmdoehaaGreat

namespace Go.Proofs.YtbdnebedmdoehaaGreat
open Go.PK

end Go.Proofs.YtbdnebedmdoehaaGreat
