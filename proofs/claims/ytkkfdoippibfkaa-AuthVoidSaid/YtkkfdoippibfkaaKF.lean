import Derived.Test.YtkkfdoippibfkaaBase0
import Derived.Test.YtkkfdoippibfkaaKindMath
import Derived.Test.YtkkfdoippibfkaaConcatB
import Derived.Test.YtkkfdoippibfkaaRNum13
import Derived.Test.YtkkfdoippibfkaaMac3
import Derived.Test.YtkkfdoippibfkaaOwnN
import Derived.Test.YtkkfdoippibfkaaKA
namespace Go.Proofs.Ytkkfdoippibfkaa
open Go.PK

/-- Bytes of one's own, so many. -/
def OwnM (n : Nat) (l : List B8) : Value → List It → List It → Prop := fun v I' H' => ∃ b, v = .slice (some ⟨b, 0, none⟩) n n ∧ I' = [] ∧ H' = [cel b (bytes l) 5]

theorem mk_step {l : List B8} {i n : Nat} (hi : i < n) {v : B8} (hl : l.length = n) (hv : l[i]? = some v) : spl (bytes (l.take i) ++ List.replicate (n - i) (U8 0#8)) (0 + i * 1) [U8 v] = bytes (l.take (i + 1)) ++ List.replicate (n - (i + 1)) (U8 0#8) := by
  have e : (bytes (l.take i)).length = i := by rw [List.length_map, List.length_take]; omega
  have h := spl_snoc (z := U8 0#8) (v := U8 v) (k := n - (i + 1)) (bytes (l.take i))
  rw [e] at h
  rw [show 0 + i * 1 = i by omega, show n - i = n - (i + 1) + 1 by omega, h]
  have hlt : i < l.length := by omega
  rw [List.getElem?_eq_getElem hlt, Option.some.injEq] at hv
  rw [List.take_succ_eq_append_getElem hlt, hv]
  simp
theorem fnum_any (N n : Nat) (h0 : 0 < n) (hn : n ≤ 8) : Spc Try.prog 149 #[.int .u64 (N : Int), .int .i64 (n : Int)] [] [] (OwnM n (beN n N)) := by
  refine Spc.enter Try.func149 rfl rfl rfl (fun w0 hw0 => ?_)
  refine CW.seq ?_
  refine CW.region (ef := []) (bk := []) ?_
  refine RL.assign rfl rfl rfl rfl ?_
  refine RL.nil ?_
  refine NQ.seq ?_
  refine CW.seq ?_
  refine CW.region (ef := [1]) (bk := []) ?_
  refine RL.move rfl rfl rfl rfl ?_
  -- STOP: op; op 1: d=8 ["makeSlice", 95, ["t", 7], ["t", 7]] guard=None (frame.go:27)
  refine RL.makeSlice (len := n) (zs := [U8 0#8]) Try.runUnderlying95 Try.sizeOf5 (ii := Try.t5) (by kernel_rfl) Try.zeroValue5 rfl rfl (by decide) h0 (by show n * 1 ≤ 1000000; omega) (by omega) rfl rfl rfl rfl rfl rfl rfl rfl ?_
  intro b1
  rw [reps_one]
  refine RL.assign rfl rfl rfl rfl ?_
  refine RL.nil ?_
  refine NQ.seq ?_
  refine CW.seq ?_
  refine CW.seq ?_
  refine CW.region (ef := []) (bk := []) ?_
  refine RL.move rfl rfl rfl rfl ?_
  refine RL.lenS Try.runUnderlying95 rfl rfl rfl rfl ?_
  refine RL.move rfl rfl rfl rfl ?_
  refine RL.nil ?_
  refine NQ.seq ?_
  refine CW.block ?_
  -- STOP: loop; todo top: ["code", ["loop", ["seq", ["region", 3, [{"d": 12, "op": ["binOp", "Go.BinOp.lss", 3, ["t", 11], ["t", 10], 3], "ty": 0, "pos": "frame.go:28", "after": [], "guard": null}], false], ["seq", ["cond", ["
  refine CW.loop (γ := Nat) (fun i => i ≤ n) (fun i => [(0, .int .u64 (N : Int)), (1, .int .i64 (n : Int)), (5, .slice (some ⟨b1, 0, none⟩) n n), (10, .int .i64 (n : Int)), (11, .int .i64 (i : Int))]) (fun _ => [])
    (fun i => [cel b1 (bytes ((beN n N).take i) ++ List.replicate (n - i) (U8 0#8)) 5]) (fun i => n - i) 0 (by simp) (.cons rfl (.cons rfl (.cons rfl (.cons rfl (.cons rfl .nil))))) (fun w h => h) ?_
  intro i hi
  refine CW.seq ?_
  refine CW.region (ef := []) (bk := []) ?_
  refine RL.bin rfl rfl rfl rfl rfl rfl ?_
  refine RL.nil ?_
  refine NQ.seq ?_
  refine CW.seq ?_
  -- STOP: if; todo top: ["code", ["cond", ["t", 12], ["skip"], ["exit", 0]]]
  refine CW.cond rfl (fun hlt => ?_) (fun hlt => ?_)
  ·
    refine CW.skip ?_
    refine NQ.seq ?_
    refine CW.seq ?_
    refine CW.block ?_
    refine CW.seq ?_
    refine CW.region (ef := []) (bk := []) ?_
    refine RL.move rfl rfl rfl rfl ?_
    refine RL.assign rfl rfl rfl rfl ?_
    refine RL.nil ?_
    refine NQ.seq ?_
    refine CW.region (ef := [11]) (bk := [11]) ?_
    refine RL.move rfl rfl rfl rfl ?_
    refine RL.move rfl rfl rfl rfl ?_
    refine RL.move rfl rfl rfl rfl ?_
    refine RL.move rfl rfl rfl rfl ?_
    refine RL.binX rfl rfl rfl rfl rfl rfl (wrapV_i64 (by omega) (by omega)) ?_
    refine RL.move rfl rfl rfl rfl ?_
    refine RL.binX rfl rfl rfl rfl rfl rfl (wrapV_i64 (by omega) (by omega)) ?_
    refine RL.binX rfl rfl rfl rfl rfl rfl (wrapV_i64 (by omega) (by omega)) ?_
    -- STOP: op; op 8: d=22 ["binOp", "Go.BinOp.shr", 50, ["t", 16], ["t", 21], 3] guard=None (frame.go:29)
    have hlt : i < n := by simp at hlt; omega
    refine RL.shr (8 * (n - 1 - i)) rfl rfl rfl rfl rfl (by omega) (by show 8 * (n - 1 - i) ≤ 64; omega) ?_
    refine RL.conv Try.runUnderlying50 Try.runUnderlying5 rfl rfl rfl rfl ?_
    -- STOP: op; op 10: d=24 ["indexAddr", 95, ["t", 14], ["t", 15]] guard=None (frame.go:29)
    refine RL.idxAt (j := i) Try.runUnderlying95 Try.sizeOf5 rfl rfl rfl rfl rfl rfl hlt ?_
    -- STOP: op; op 11: d=None ["store", 5, ["t", 24], ["t", 23]] guard=None (frame.go:29)
    rw [byteA]
    refine RL.storeX (vs := [_]) (mk_step (l := beN n N) hlt (beN_length _ _) (by rw [beN_get n N i hlt, Nat.pow_mul])) Try.sizeOf5 rfl rfl rfl rfl rfl rfl rfl rfl (by repeat (first | exact Upd.here | apply Upd.there)) (by simp [beN_length]; omega) ?_
    refine RL.nil ?_
    refine NQ.block ?_
    refine NQ.seq ?_
    refine CW.only (.cons (k := 0) rfl (.cons (k := 1) rfl (.cons (k := 5) rfl (.cons (k := 10) rfl (.cons (k := 11) rfl .nil))))) ?_
    refine CW.region (ef := []) (bk := []) ?_
    refine RL.binX rfl rfl rfl rfl rfl rfl (wrapV_i64 (by omega) (by omega)) ?_
    refine RL.move rfl rfl rfl rfl ?_
    refine RL.nil ?_
    -- STOP: round; todo top: ["N"]
    refine NQ.round (g := i) (i + 1) hlt (by show n - (i + 1) < n - i; omega) (.cons rfl (.cons rfl (.cons rfl (.cons rfl (.cons rfl .nil))))) (fun w h => h)
  ·
    refine CW.exit ?_
    refine XQ.seq ?_
    refine XQ.seq ?_
    refine XQ.hit ?_
    refine NQ.seq ?_
    refine CW.seq ?_
    refine CW.region (ef := []) (bk := []) ?_
    refine RL.move rfl rfl rfl rfl ?_
    refine RL.assign rfl rfl rfl rfl ?_
    refine RL.nil ?_
    refine NQ.seq ?_
    refine CW.only (.cons (k := 4) rfl .nil) ?_
    refine CW.ret ?_
    -- STOP: ret; end
    have hin : i = n := by simp at hlt; omega
    subst hin
    rw [Nat.sub_self, List.replicate_zero, List.append_nil, List.take_of_length_le (by rw [beN_length]; exact Nat.le_refl _)]
    exact RQ.post (res1 rfl rfl) (.keep .nil) ⟨b1, rfl, rfl, rfl⟩

end Go.Proofs.Ytkkfdoippibfkaa

namespace Go.Proofs.Ytkkfdoippibfkaa
open Go.PK

/-- A frame. -/
structure Fr where
  kd : Int
  sr : Int
  ep : Nat
  ct : Nat
  b : List B8
  tag : List B8
def Fr.cells (f : Fr) (sl : Value) : List Value := .int .i64 f.kd :: .int .i64 f.sr :: .int .u32 (f.ep : Int) :: .int .u64 (f.ct : Int) :: sl :: bytes f.tag
structure Fr.Ok (f : Fr) : Prop where
  ep : f.ep < 4294967296
  ct : f.ct < 18446744073709551616
  tag : f.tag.length = 16
theorem fr_len {f : Fr} (h : f.tag.length = 16) (sl : Value) : (f.cells sl).length = 21 := by simp [Fr.cells, h]
theorem fr_tag (f : Fr) (sl : Value) : ∀ (j : Nat) (u : Value), (bytes f.tag)[j]? = some u → (f.cells sl)[0 + 5 + j]? = some u := fun j u hj => by
  rw [show 0 + 5 + j = j + 1 + 1 + 1 + 1 + 1 by omega]; exact hj
theorem ones_fr (f : Fr) {sl : Value} (hs : sl.oneCell' = true) : ones (f.cells sl) = true := by
  have h : ones (bytes f.tag) = true := ones_map one8 _
  have e : ones (f.cells sl) = (true && (true && (true && (true && (sl.oneCell' && ones (bytes f.tag)))))) := rfl
  rw [e, hs, h]; rfl
/-- What is signed. -/
def Fr.signed (f : Fr) : List B8 := [BitVec.ofInt 8 f.kd, BitVec.ofInt 8 f.sr] ++ (beN 4 f.ep ++ (beN 8 f.ct ++ (f.b ++ [])))
theorem signed_len (f : Fr) : f.signed.length = 14 + f.b.length := by simp [Fr.signed, beN_length]; omega
/-- Bytes of one's own. -/
def OwnT (l : List B8) : Value → List It → List It → Prop := fun v I' H' => ∃ ob cap, v = slO ob l.length cap ∧ I' = [] ∧ H' = [own ob cap 5 1 l.length (bytes l)] ∧ True
theorem concatT (pp : Option Addr) (cap n : Nat) (ps : List Part) (l : List B8) (hn : ps.length = n) (hnb : n ≤ 1000000) (hj : joined ps = l) (hb : l.length ≤ 1000000) :
    Spc Try.prog 148 #[.slice pp n cap] (sls pp 1 n (ps.map Part.v) :: ps.map Part.i) [] (OwnT l) := fun w hw => by
  subst hj
  refine (concatB_any pp cap n ps hn hnb hb w hw).mono ?_
  rintro e w' ⟨v, I', H', he, ⟨ob, c, rfl, rfl, rfl⟩, h⟩
  exact ⟨_, _, _, he, ⟨ob, c, rfl, rfl, rfl, trivial⟩, h⟩
theorem fnumO (N n : Nat) (h0 : 0 < n) (hn : n ≤ 8) (v : Int) (hv : v = (N : Int)) : Spc Try.prog 149 #[.int .u64 v, .int .i64 (n : Int)] [] [] (OwnN n (beN n N)) := fun w hw => by
  subst hv
  refine (fnum_any N n h0 hn w hw).mono ?_
  rintro e w' ⟨v, I', H', he, ⟨b, rfl, rfl, rfl⟩, hk, hs, h1, h2⟩
  refine ⟨_, _, _, he, ⟨some b, n, rfl, rfl, rfl, .inr rfl⟩, hk, ⟨by simp, fun x hx => ?_, by simp [own], by simp⟩, fun c hc => h1 c hc, by simp⟩
  rw [List.mem_singleton.1 hx]
  exact cel_own (by simp [beN_length]) (by unfold maxLen; omega) w' (hs.h _ (List.Mem.head _))
theorem w64_id {n : Nat} (h : n < 18446744073709551616) : IntKind.u64.wrap (n : Int) = (n : Int) := by simp [IntKind.wrap, IntKind.bits, IntKind.signed]; omega
theorem signed_any (f : Fr) (p : Option Addr) (c n : Nat) (hf : f.Ok) (hn : f.b.length = n) (hb : n ≤ 900000) : Spc Try.prog 99 #[.agg (f.cells (.slice p n c)).toArray] [sls p 1 n (bytes f.b)] [] (OwnT f.signed) := by
  subst hn
  have hl := fr_len hf.tag (.slice p f.b.length c)
  refine Spc.enter Try.func99 rfl rfl rfl (fun w0 hw0 => ?_)
  refine CW.seq ?_
  refine CW.region (ef := [0]) (bk := []) ?_
  refine RL.box rfl rfl rfl rfl rfl rfl ?_
  intro b1
  refine RL.assign rfl rfl rfl rfl ?_
  refine RL.nil ?_
  refine NQ.seq ?_
  refine CW.seq ?_
  -- STOP: region; todo top: ["code", ["region", 1, [{"d": 3, "op": ["fieldAddr", 99, ["t", 1], 0], "ty": 0, "pos": "frame.go:36", "after": [], "guard": null}, {"d": 4, "op": ["load", 3, ["t", 3]], "ty": 3, "pos": "frame.go:36", 
  refine CW.freezeP (A := [_]) (B := []) (.take .nil) rfl ?_
  refine CW.regionD (.cons 0 (.cons 1 (.cons 2 (.cons 3 (.cons 4 (.cons 5 (.cons 7 (.cons 8 (.cons 9 (.cons 11 (.cons 12 (.cons 14 (.cons 15 (.fork [6, 10] (fun k => (bif Nat.beq k 6 then (Sq.of [10, 13, 16, 17, 18]) else (.fork [6, 13] (fun k => (bif Nat.beq k 6 then (Sq.of [13, 16, 17, 18]) else (Sq.of [6, 16, 17, 18])))))))))))))))))))) [6, 10, 13, 16, 17] [] [0, 1, 2, 3, 4, 5, 7, 8, 9, 11, 12, 14, 15, 18] mixed (by kernel_rfl) ?_
  refine RL.fieldAddr fa_99_0 rfl rfl rfl rfl ?_
  refine RL.loadT Try.isAgg3 rfl rfl rfl rfl (by first | assumption | (apply RdI.rd; assumption) | (apply Rd.get; (solve | (repeat (first | exact List.Mem.head _ | apply List.Mem.tail))); assumption) | (apply Rd.getS; (solve | (repeat (first | exact List.Mem.head _ | apply List.Mem.tail))); assumption) | (apply Rd.getO; (solve | (repeat (first | exact List.Mem.head _ | apply List.Mem.tail))); assumption) | (apply Rd.getI; (solve | (repeat (first | exact List.Mem.head _ | apply List.Mem.tail))); assumption) | (apply Rd.cel; (solve | (repeat (first | exact List.Mem.head _ | apply List.Mem.tail))); exact rfl) | (apply Rd.celI; (solve | (repeat (first | exact List.Mem.head _ | apply List.Mem.tail))); exact rfl)) ?_
  refine RL.lowest Try.runUnderlying3 Try.runUnderlying5 rfl rfl rfl rfl ?_
  refine RL.fieldAddr fa_99_1 rfl rfl rfl rfl ?_
  refine RL.loadT Try.isAgg3 rfl rfl rfl rfl (by first | assumption | (apply RdI.rd; assumption) | (apply Rd.get; (solve | (repeat (first | exact List.Mem.head _ | apply List.Mem.tail))); assumption) | (apply Rd.getS; (solve | (repeat (first | exact List.Mem.head _ | apply List.Mem.tail))); assumption) | (apply Rd.getO; (solve | (repeat (first | exact List.Mem.head _ | apply List.Mem.tail))); assumption) | (apply Rd.getI; (solve | (repeat (first | exact List.Mem.head _ | apply List.Mem.tail))); assumption) | (apply Rd.cel; (solve | (repeat (first | exact List.Mem.head _ | apply List.Mem.tail))); exact rfl) | (apply Rd.celI; (solve | (repeat (first | exact List.Mem.head _ | apply List.Mem.tail))); exact rfl)) ?_
  refine RL.lowest Try.runUnderlying3 Try.runUnderlying5 rfl rfl rfl rfl ?_
  refine RL.fieldAddr fa_99_2 rfl rfl rfl rfl ?_
  refine RL.loadT Try.isAgg31 rfl rfl rfl rfl (by first | assumption | (apply RdI.rd; assumption) | (apply Rd.get; (solve | (repeat (first | exact List.Mem.head _ | apply List.Mem.tail))); assumption) | (apply Rd.getS; (solve | (repeat (first | exact List.Mem.head _ | apply List.Mem.tail))); assumption) | (apply Rd.getO; (solve | (repeat (first | exact List.Mem.head _ | apply List.Mem.tail))); assumption) | (apply Rd.getI; (solve | (repeat (first | exact List.Mem.head _ | apply List.Mem.tail))); assumption) | (apply Rd.cel; (solve | (repeat (first | exact List.Mem.head _ | apply List.Mem.tail))); exact rfl) | (apply Rd.celI; (solve | (repeat (first | exact List.Mem.head _ | apply List.Mem.tail))); exact rfl)) ?_
  refine RL.conv Try.runUnderlying31 Try.runUnderlying50 rfl rfl rfl rfl ?_
  refine RL.fieldAddr fa_99_3 rfl rfl rfl rfl ?_
  refine RL.loadT Try.isAgg50 rfl rfl rfl rfl (by first | assumption | (apply RdI.rd; assumption) | (apply Rd.get; (solve | (repeat (first | exact List.Mem.head _ | apply List.Mem.tail))); assumption) | (apply Rd.getS; (solve | (repeat (first | exact List.Mem.head _ | apply List.Mem.tail))); assumption) | (apply Rd.getO; (solve | (repeat (first | exact List.Mem.head _ | apply List.Mem.tail))); assumption) | (apply Rd.getI; (solve | (repeat (first | exact List.Mem.head _ | apply List.Mem.tail))); assumption) | (apply Rd.cel; (solve | (repeat (first | exact List.Mem.head _ | apply List.Mem.tail))); exact rfl) | (apply Rd.celI; (solve | (repeat (first | exact List.Mem.head _ | apply List.Mem.tail))); exact rfl)) ?_
  refine RL.fieldAddr fa_99_4 rfl rfl rfl rfl ?_
  refine RL.loadT Try.isAgg95 rfl rfl rfl rfl (by first | assumption | (apply RdI.rd; assumption) | (apply Rd.get; (solve | (repeat (first | exact List.Mem.head _ | apply List.Mem.tail))); assumption) | (apply Rd.getS; (solve | (repeat (first | exact List.Mem.head _ | apply List.Mem.tail))); assumption) | (apply Rd.getO; (solve | (repeat (first | exact List.Mem.head _ | apply List.Mem.tail))); assumption) | (apply Rd.getI; (solve | (repeat (first | exact List.Mem.head _ | apply List.Mem.tail))); assumption) | (apply Rd.cel; (solve | (repeat (first | exact List.Mem.head _ | apply List.Mem.tail))); exact rfl) | (apply Rd.celI; (solve | (repeat (first | exact List.Mem.head _ | apply List.Mem.tail))); exact rfl)) ?_
  -- STOP: fork; todo top: ["code", ["region", 1, [{"d": 3, "op": ["fieldAddr", 99, ["t", 1], 0], "ty": 0, "pos": "frame.go:36", "after": [], "guard": null}, {"d": 4, "op": ["load", 3, ["t", 3]], "ty": 3, "pos": "frame.go:36", 
  refine RL.fork ⟨?_, ?_, trivial⟩
  ·
    refine RL.buildSlice [_, _] Try.runUnderlying95 Try.sizeOf5 Try.zeroValue5 rfl rfl (by decide) (by decide) rfl rfl rfl rfl rfl rfl ?_
    intro b2
    refine RL.call (fnumO f.ep 4 (by decide) (by decide) _ (w64_id (by have := hf.ep; omega))) Try.call149 rfl rfl rfl rfl rfl (by repeat (first | exact Pick.nil | apply Pick.take | apply Pick.leave)) (by repeat (first | exact Lend.nil | (refine Lend.inI ?_ ?_; (solve | (repeat (first | exact List.Mem.head _ | apply List.Mem.tail)))) | (refine Lend.inH ?_ ?_; (solve | (repeat (first | exact List.Mem.head _ | apply List.Mem.tail)))))) (.inl rfl) ?_
    rintro _ _ _ ⟨ob1, cap1, rfl, rfl, rfl, ho1⟩
    refine RL.call (fnumO f.ct 8 (by decide) (by decide) _ rfl) Try.call149 rfl rfl rfl rfl rfl (by repeat (first | exact Pick.nil | apply Pick.take | apply Pick.leave)) (by repeat (first | exact Lend.nil | (refine Lend.inI ?_ ?_; (solve | (repeat (first | exact List.Mem.head _ | apply List.Mem.tail)))) | (refine Lend.inH ?_ ?_; (solve | (repeat (first | exact List.Mem.head _ | apply List.Mem.tail)))))) (.inl rfl) ?_
    rintro _ _ _ ⟨ob2, cap2, rfl, rfl, rfl, ho2⟩
    refine RL.buildSlice [_, _, _, _] Try.runUnderlying281 Try.sizeOf95 Try.zeroValue95 rfl rfl (by decide) (by decide) rfl rfl rfl rfl rfl rfl ?_
    intro b3
    refine RL.call (concatT (some ⟨b3, 0, none⟩) 4 4 [⟨some ⟨b2, 0, none⟩, 2, [BitVec.ofInt 8 f.kd, BitVec.ofInt 8 f.sr]⟩, ⟨ob1.map fun b => ⟨b, 0, none⟩, cap1, beN 4 f.ep⟩, ⟨ob2.map fun b => ⟨b, 0, none⟩, cap2, beN 8 f.ct⟩, ⟨p, c, f.b⟩] f.signed rfl (by decide) rfl (by rw [signed_len]; omega)) Try.call148 rfl rfl rfl rfl rfl (by repeat (first | exact Pick.nil | apply Pick.take | apply Pick.leave)) (Lend.allX (by repeat (first | exact List.Mem.head _ | apply List.Mem.tail)) rfl rfl (Lend.all (by repeat (first | exact List.Mem.head _ | apply List.Mem.tail)) rfl (Lend.own (by repeat (first | exact List.Mem.head _ | apply List.Mem.tail)) (Lend.own (by repeat (first | exact List.Mem.head _ | apply List.Mem.tail)) (.inI (by simp) .nil))))) (.inl rfl) ?_
    rintro _ _ _ ⟨ob3, cap3, rfl, rfl, rfl, ho3⟩
    refine RL.assign rfl rfl rfl rfl ?_
    refine RL.nil ?_
    refine NQ.seq ?_
    refine CW.only (.cons (k := 2) rfl .nil) ?_
    refine CW.ret ?_
    exact RQ.post (res1 rfl rfl) (.keep (Split.none _)) ⟨ob3, cap3, rfl, rfl, rfl, trivial⟩
  ·
    refine RL.call (fnumO f.ep 4 (by decide) (by decide) _ (w64_id (by have := hf.ep; omega))) Try.call149 rfl rfl rfl rfl rfl (by repeat (first | exact Pick.nil | apply Pick.take | apply Pick.leave)) (by repeat (first | exact Lend.nil | (refine Lend.inI ?_ ?_; (solve | (repeat (first | exact List.Mem.head _ | apply List.Mem.tail)))) | (refine Lend.inH ?_ ?_; (solve | (repeat (first | exact List.Mem.head _ | apply List.Mem.tail)))))) (.inl rfl) ?_
    rintro _ _ _ ⟨ob1, cap1, rfl, rfl, rfl, ho1⟩
    refine RL.fork ⟨?_, ?_, trivial⟩
    ·
      refine RL.buildSlice [_, _] Try.runUnderlying95 Try.sizeOf5 Try.zeroValue5 rfl rfl (by decide) (by decide) rfl rfl rfl rfl rfl rfl ?_
      intro b2
      refine RL.call (fnumO f.ct 8 (by decide) (by decide) _ rfl) Try.call149 rfl rfl rfl rfl rfl (by repeat (first | exact Pick.nil | apply Pick.take | apply Pick.leave)) (by repeat (first | exact Lend.nil | (refine Lend.inI ?_ ?_; (solve | (repeat (first | exact List.Mem.head _ | apply List.Mem.tail)))) | (refine Lend.inH ?_ ?_; (solve | (repeat (first | exact List.Mem.head _ | apply List.Mem.tail)))))) (.inl rfl) ?_
      rintro _ _ _ ⟨ob2, cap2, rfl, rfl, rfl, ho2⟩
      refine RL.buildSlice [_, _, _, _] Try.runUnderlying281 Try.sizeOf95 Try.zeroValue95 rfl rfl (by decide) (by decide) rfl rfl rfl rfl rfl rfl ?_
      intro b3
      refine RL.call (concatT (some ⟨b3, 0, none⟩) 4 4 [⟨some ⟨b2, 0, none⟩, 2, [BitVec.ofInt 8 f.kd, BitVec.ofInt 8 f.sr]⟩, ⟨ob1.map fun b => ⟨b, 0, none⟩, cap1, beN 4 f.ep⟩, ⟨ob2.map fun b => ⟨b, 0, none⟩, cap2, beN 8 f.ct⟩, ⟨p, c, f.b⟩] f.signed rfl (by decide) rfl (by rw [signed_len]; omega)) Try.call148 rfl rfl rfl rfl rfl (by repeat (first | exact Pick.nil | apply Pick.take | apply Pick.leave)) (Lend.allX (by repeat (first | exact List.Mem.head _ | apply List.Mem.tail)) rfl rfl (Lend.all (by repeat (first | exact List.Mem.head _ | apply List.Mem.tail)) rfl (Lend.own (by repeat (first | exact List.Mem.head _ | apply List.Mem.tail)) (Lend.own (by repeat (first | exact List.Mem.head _ | apply List.Mem.tail)) (.inI (by simp) .nil))))) (.inl rfl) ?_
      rintro _ _ _ ⟨ob3, cap3, rfl, rfl, rfl, ho3⟩
      refine RL.assign rfl rfl rfl rfl ?_
      refine RL.nil ?_
      refine NQ.seq ?_
      refine CW.only (.cons (k := 2) rfl .nil) ?_
      refine CW.ret ?_
      exact RQ.post (res1 rfl rfl) (.keep (Split.none _)) ⟨ob3, cap3, rfl, rfl, rfl, trivial⟩
    ·
      refine RL.call (fnumO f.ct 8 (by decide) (by decide) _ rfl) Try.call149 rfl rfl rfl rfl rfl (by repeat (first | exact Pick.nil | apply Pick.take | apply Pick.leave)) (by repeat (first | exact Lend.nil | (refine Lend.inI ?_ ?_; (solve | (repeat (first | exact List.Mem.head _ | apply List.Mem.tail)))) | (refine Lend.inH ?_ ?_; (solve | (repeat (first | exact List.Mem.head _ | apply List.Mem.tail)))))) (.inl rfl) ?_
      rintro _ _ _ ⟨ob2, cap2, rfl, rfl, rfl, ho2⟩
      refine RL.buildSlice [_, _] Try.runUnderlying95 Try.sizeOf5 Try.zeroValue5 rfl rfl (by decide) (by decide) rfl rfl rfl rfl rfl rfl ?_
      intro b2
      refine RL.buildSlice [_, _, _, _] Try.runUnderlying281 Try.sizeOf95 Try.zeroValue95 rfl rfl (by decide) (by decide) rfl rfl rfl rfl rfl rfl ?_
      intro b3
      refine RL.call (concatT (some ⟨b3, 0, none⟩) 4 4 [⟨some ⟨b2, 0, none⟩, 2, [BitVec.ofInt 8 f.kd, BitVec.ofInt 8 f.sr]⟩, ⟨ob1.map fun b => ⟨b, 0, none⟩, cap1, beN 4 f.ep⟩, ⟨ob2.map fun b => ⟨b, 0, none⟩, cap2, beN 8 f.ct⟩, ⟨p, c, f.b⟩] f.signed rfl (by decide) rfl (by rw [signed_len]; omega)) Try.call148 rfl rfl rfl rfl rfl (by repeat (first | exact Pick.nil | apply Pick.take | apply Pick.leave)) (Lend.allX (by repeat (first | exact List.Mem.head _ | apply List.Mem.tail)) rfl rfl (Lend.all (by repeat (first | exact List.Mem.head _ | apply List.Mem.tail)) rfl (Lend.own (by repeat (first | exact List.Mem.head _ | apply List.Mem.tail)) (Lend.own (by repeat (first | exact List.Mem.head _ | apply List.Mem.tail)) (.inI (by simp) .nil))))) (.inl rfl) ?_
      rintro _ _ _ ⟨ob3, cap3, rfl, rfl, rfl, ho3⟩
      refine RL.assign rfl rfl rfl rfl ?_
      refine RL.nil ?_
      refine NQ.seq ?_
      refine CW.only (.cons (k := 2) rfl .nil) ?_
      refine CW.ret ?_
      exact RQ.post (res1 rfl rfl) (.keep (Split.none _)) ⟨ob3, cap3, rfl, rfl, rfl, trivial⟩
end Go.Proofs.Ytkkfdoippibfkaa

namespace Go.Proofs.Ytkkfdoippibfkaa
open Go.PK

theorem u8_of (n : Int) : Value.int .u8 (IntKind.u8.wrap n) = U8 (BitVec.ofInt 8 n) := by rw [u8_wrap]; rfl
theorem rsigned_any (f : Fr) (p : Option Addr) (c n : Nat) (hf : f.Ok) (hn : f.b.length = n) (hb : n ≤ 900000) : Spc Try.prog 102 #[.agg (f.cells (.slice p n c)).toArray] [sls p 1 n (bytes f.b)] [] (OwnN (14 + n) f.signed) := by
  have hl := fr_len hf.tag (.slice p n c)
  refine Spc.enter Try.func102 rfl rfl rfl (fun w0 hw0 => ?_)
  refine CW.seq ?_
  refine CW.region (ef := [0]) (bk := []) ?_
  refine RL.box rfl rfl rfl rfl rfl rfl ?_
  intro b1
  refine RL.assign rfl rfl rfl rfl ?_
  refine RL.nil ?_
  refine NQ.seq ?_
  refine CW.seq ?_
  -- STOP: region; todo top: ["code", ["region", 1, [{"d": 4, "op": ["fieldAddr", 99, ["t", 1], 0], "ty": 0, "pos": "ref.go:21", "after": [], "guard": null}, {"d": 5, "op": ["load", 3, ["t", 4]], "ty": 3, "pos": "ref.go:21", "aft
  refine CW.freezeP (A := [_]) (B := []) (.take .nil) rfl ?_
  refine CW.region (ef := [6]) (bk := []) ?_
  refine RL.fieldAddr fa_99_0 rfl rfl rfl rfl ?_
  refine RL.load Try.isAgg3 rfl rfl rfl rfl (by first | assumption | (apply RdI.rd; assumption) | (apply Rd.get; (solve | (repeat (first | exact List.Mem.head _ | apply List.Mem.tail))); assumption) | (apply Rd.getS; (solve | (repeat (first | exact List.Mem.head _ | apply List.Mem.tail))); assumption) | (apply Rd.getO; (solve | (repeat (first | exact List.Mem.head _ | apply List.Mem.tail))); assumption) | (apply Rd.getI; (solve | (repeat (first | exact List.Mem.head _ | apply List.Mem.tail))); assumption) | (apply Rd.cel; (solve | (repeat (first | exact List.Mem.head _ | apply List.Mem.tail))); exact rfl) | (apply Rd.celI; (solve | (repeat (first | exact List.Mem.head _ | apply List.Mem.tail))); exact rfl)) ?_
  refine RL.lowest Try.runUnderlying3 Try.runUnderlying5 rfl rfl rfl rfl ?_
  refine RL.fieldAddr fa_99_1 rfl rfl rfl rfl ?_
  refine RL.load Try.isAgg3 rfl rfl rfl rfl (by first | assumption | (apply RdI.rd; assumption) | (apply Rd.get; (solve | (repeat (first | exact List.Mem.head _ | apply List.Mem.tail))); assumption) | (apply Rd.getS; (solve | (repeat (first | exact List.Mem.head _ | apply List.Mem.tail))); assumption) | (apply Rd.getO; (solve | (repeat (first | exact List.Mem.head _ | apply List.Mem.tail))); assumption) | (apply Rd.getI; (solve | (repeat (first | exact List.Mem.head _ | apply List.Mem.tail))); assumption) | (apply Rd.cel; (solve | (repeat (first | exact List.Mem.head _ | apply List.Mem.tail))); exact rfl) | (apply Rd.celI; (solve | (repeat (first | exact List.Mem.head _ | apply List.Mem.tail))); exact rfl)) ?_
  refine RL.lowest Try.runUnderlying3 Try.runUnderlying5 rfl rfl rfl rfl ?_
  refine RL.buildOwn [_, _] Try.runUnderlying95 Try.sizeOf5 Try.zeroValue5 rfl rfl (by decide) (by decide) rfl (by decide) rfl rfl rfl rfl rfl rfl ?_
  intro b2
  refine RL.assign rfl rfl rfl rfl ?_
  refine RL.nil ?_
  refine NQ.seq ?_
  refine CW.only (.cons (k := 1) rfl (.cons (k := 3) rfl .nil)) ?_
  refine CW.seq ?_
  refine CW.regionD (Sq.of [0, 1, 2, 3, 6, 7, 4, 5, 8, 9, 10]) [4, 5, 8, 9] [5, 9] [0, 1, 2, 3, 6, 7, 10] mixed (by kernel_rfl) ?_
  refine RL.move rfl rfl rfl rfl ?_
  refine RL.fieldAddr fa_99_2 rfl rfl rfl rfl ?_
  refine RL.loadT Try.isAgg31 rfl rfl rfl rfl (by first | assumption | (apply RdI.rd; assumption) | (apply Rd.get; (solve | (repeat (first | exact List.Mem.head _ | apply List.Mem.tail))); assumption) | (apply Rd.getS; (solve | (repeat (first | exact List.Mem.head _ | apply List.Mem.tail))); assumption) | (apply Rd.getO; (solve | (repeat (first | exact List.Mem.head _ | apply List.Mem.tail))); assumption) | (apply Rd.getI; (solve | (repeat (first | exact List.Mem.head _ | apply List.Mem.tail))); assumption) | (apply Rd.cel; (solve | (repeat (first | exact List.Mem.head _ | apply List.Mem.tail))); exact rfl) | (apply Rd.celI; (solve | (repeat (first | exact List.Mem.head _ | apply List.Mem.tail))); exact rfl)) ?_
  refine RL.conv Try.runUnderlying31 Try.runUnderlying50 rfl rfl rfl rfl ?_
  refine RL.fieldAddr fa_99_3 rfl rfl rfl rfl ?_
  refine RL.loadT Try.isAgg50 rfl rfl rfl rfl (by first | assumption | (apply RdI.rd; assumption) | (apply Rd.get; (solve | (repeat (first | exact List.Mem.head _ | apply List.Mem.tail))); assumption) | (apply Rd.getS; (solve | (repeat (first | exact List.Mem.head _ | apply List.Mem.tail))); assumption) | (apply Rd.getO; (solve | (repeat (first | exact List.Mem.head _ | apply List.Mem.tail))); assumption) | (apply Rd.getI; (solve | (repeat (first | exact List.Mem.head _ | apply List.Mem.tail))); assumption) | (apply Rd.cel; (solve | (repeat (first | exact List.Mem.head _ | apply List.Mem.tail))); exact rfl) | (apply Rd.celI; (solve | (repeat (first | exact List.Mem.head _ | apply List.Mem.tail))); exact rfl)) ?_
  refine RL.call (((w64_id (n := f.ep) (by have := hf.ep; omega)).symm ▸ OwnB.n (n := 4) rfl (num13 f.ep 4 (by have := hf.ep; omega) (by decide)))) Try.call151 rfl rfl rfl rfl rfl (by repeat (first | exact Pick.nil | apply Pick.take | apply Pick.leave)) (by repeat (first | exact Lend.nil | (refine Lend.inI ?_ ?_; (solve | (repeat (first | exact List.Mem.head _ | apply List.Mem.tail)))) | (refine Lend.inH ?_ ?_; (solve | (repeat (first | exact List.Mem.head _ | apply List.Mem.tail)))))) (.inl rfl) ?_
  rintro _ _ _ ⟨ob1, cap1, rfl, rfl, rfl, ho1⟩
  refine RL.appendA el_95 rfl rfl rfl rfl rfl rfl rfl (by first | exact ⟨(.take (Pick.none _)), rfl⟩ | exact ⟨(.leave (.take (Pick.none _))), rfl⟩ | exact ⟨(.leave (.leave (.take (Pick.none _)))), rfl⟩ | exact ⟨(.leave (.leave (.leave (.take (Pick.none _))))), rfl⟩ | exact ⟨(.leave (.leave (.leave (.leave (.take (Pick.none _)))))), rfl⟩ | exact ⟨(.leave (.leave (.leave (.leave (.leave (.take (Pick.none _))))))), rfl⟩ | exact ⟨(.leave (.leave (.leave (.leave (.leave (.leave (.take (Pick.none _)))))))), rfl⟩ | exact ⟨(.leave (.leave (.leave (.leave (.leave (.leave (.leave (.take (Pick.none _))))))))), rfl⟩ | exact ⟨(.leave (.leave (.leave (.leave (.leave (.leave (.leave (.leave (.take (Pick.none _)))))))))), rfl⟩ | exact ⟨(.leave (.leave (.leave (.leave (.leave (.leave (.leave (.leave (.leave (.take (Pick.none _))))))))))), rfl⟩) (by first | (exact Src.cel (by (solve | (repeat (first | exact List.Mem.head _ | apply List.Mem.tail)))) (by first | rfl | assumption | (simp only [List.length_map]; assumption) | (simp only [List.length_map, List.length_replicate]; done) | (simp; done))) | (exact Src.ownS (by (solve | (repeat (first | exact List.Mem.head _ | apply List.Mem.tail))))) | (exact Src.own (by (solve | (repeat (first | exact List.Mem.head _ | apply List.Mem.tail))))) | (exact Src.sls (by (solve | (repeat (first | exact List.Mem.head _ | apply List.Mem.tail))))) | (exact Src.celI (by (solve | (repeat (first | exact List.Mem.head _ | apply List.Mem.tail)))) (by first | rfl | assumption | (simp only [List.length_map]; assumption) | (simp only [List.length_map, List.length_replicate]; done) | (simp; done)))) (by first | exact one_map one8 _ | exact ones_spec rfl | exact one_map (fun _ => rfl) _ | (intro u hu; simp at hu; simp [hu, Value.oneCell'])) (by first | omega | (simp only [maxLen]; omega)) (by first | omega | (simp only [maxLen]; omega)) ?_
  intro ob2 cap2 ho2
  refine RL.call (OwnB.n (n := 8) rfl (num13 f.ct 8 hf.ct (by decide))) Try.call151 rfl rfl rfl rfl rfl (by repeat (first | exact Pick.nil | apply Pick.take | apply Pick.leave)) (by repeat (first | exact Lend.nil | (refine Lend.inI ?_ ?_; (solve | (repeat (first | exact List.Mem.head _ | apply List.Mem.tail)))) | (refine Lend.inH ?_ ?_; (solve | (repeat (first | exact List.Mem.head _ | apply List.Mem.tail)))))) (.inl rfl) ?_
  rintro _ _ _ ⟨ob3, cap3, rfl, rfl, rfl, ho3⟩
  refine RL.appendA el_95 rfl rfl rfl rfl rfl rfl rfl (by first | exact ⟨(.take (Pick.none _)), rfl⟩ | exact ⟨(.leave (.take (Pick.none _))), rfl⟩ | exact ⟨(.leave (.leave (.take (Pick.none _)))), rfl⟩ | exact ⟨(.leave (.leave (.leave (.take (Pick.none _))))), rfl⟩ | exact ⟨(.leave (.leave (.leave (.leave (.take (Pick.none _)))))), rfl⟩ | exact ⟨(.leave (.leave (.leave (.leave (.leave (.take (Pick.none _))))))), rfl⟩ | exact ⟨(.leave (.leave (.leave (.leave (.leave (.leave (.take (Pick.none _)))))))), rfl⟩ | exact ⟨(.leave (.leave (.leave (.leave (.leave (.leave (.leave (.take (Pick.none _))))))))), rfl⟩ | exact ⟨(.leave (.leave (.leave (.leave (.leave (.leave (.leave (.leave (.take (Pick.none _)))))))))), rfl⟩ | exact ⟨(.leave (.leave (.leave (.leave (.leave (.leave (.leave (.leave (.leave (.take (Pick.none _))))))))))), rfl⟩) (by first | (exact Src.cel (by (solve | (repeat (first | exact List.Mem.head _ | apply List.Mem.tail)))) (by first | rfl | assumption | (simp only [List.length_map]; assumption) | (simp only [List.length_map, List.length_replicate]; done) | (simp; done))) | (exact Src.ownS (by (solve | (repeat (first | exact List.Mem.head _ | apply List.Mem.tail))))) | (exact Src.own (by (solve | (repeat (first | exact List.Mem.head _ | apply List.Mem.tail))))) | (exact Src.sls (by (solve | (repeat (first | exact List.Mem.head _ | apply List.Mem.tail))))) | (exact Src.celI (by (solve | (repeat (first | exact List.Mem.head _ | apply List.Mem.tail)))) (by first | rfl | assumption | (simp only [List.length_map]; assumption) | (simp only [List.length_map, List.length_replicate]; done) | (simp; done)))) (by first | exact one_map one8 _ | exact ones_spec rfl | exact one_map (fun _ => rfl) _ | (intro u hu; simp at hu; simp [hu, Value.oneCell'])) (by first | omega | (simp only [maxLen]; omega)) (by first | omega | (simp only [maxLen]; omega)) ?_
  intro ob4 cap4 ho4
  refine RL.assign rfl rfl rfl rfl ?_
  refine RL.nil ?_
  refine NQ.seq ?_
  refine CW.only (.cons (k := 1) rfl (.cons (k := 3) rfl .nil)) ?_
  refine CW.seq ?_
  refine CW.region (ef := [3]) (bk := [3]) ?_
  refine RL.move rfl rfl rfl rfl ?_
  refine RL.fieldAddr fa_99_4 rfl rfl rfl rfl ?_
  refine RL.load Try.isAgg95 rfl rfl rfl rfl (by first | assumption | (apply RdI.rd; assumption) | (apply Rd.get; (solve | (repeat (first | exact List.Mem.head _ | apply List.Mem.tail))); assumption) | (apply Rd.getS; (solve | (repeat (first | exact List.Mem.head _ | apply List.Mem.tail))); assumption) | (apply Rd.getO; (solve | (repeat (first | exact List.Mem.head _ | apply List.Mem.tail))); assumption) | (apply Rd.getI; (solve | (repeat (first | exact List.Mem.head _ | apply List.Mem.tail))); assumption) | (apply Rd.cel; (solve | (repeat (first | exact List.Mem.head _ | apply List.Mem.tail))); exact rfl) | (apply Rd.celI; (solve | (repeat (first | exact List.Mem.head _ | apply List.Mem.tail))); exact rfl)) ?_
  refine RL.appendA el_95 rfl rfl rfl rfl rfl rfl rfl (by first | exact ⟨(.take (Pick.none _)), rfl⟩ | exact ⟨(.leave (.take (Pick.none _))), rfl⟩ | exact ⟨(.leave (.leave (.take (Pick.none _)))), rfl⟩ | exact ⟨(.leave (.leave (.leave (.take (Pick.none _))))), rfl⟩ | exact ⟨(.leave (.leave (.leave (.leave (.take (Pick.none _)))))), rfl⟩ | exact ⟨(.leave (.leave (.leave (.leave (.leave (.take (Pick.none _))))))), rfl⟩ | exact ⟨(.leave (.leave (.leave (.leave (.leave (.leave (.take (Pick.none _)))))))), rfl⟩ | exact ⟨(.leave (.leave (.leave (.leave (.leave (.leave (.leave (.take (Pick.none _))))))))), rfl⟩ | exact ⟨(.leave (.leave (.leave (.leave (.leave (.leave (.leave (.leave (.take (Pick.none _)))))))))), rfl⟩ | exact ⟨(.leave (.leave (.leave (.leave (.leave (.leave (.leave (.leave (.leave (.take (Pick.none _))))))))))), rfl⟩) (by first | (exact Src.cel (by (solve | (repeat (first | exact List.Mem.head _ | apply List.Mem.tail)))) (by first | rfl | assumption | (simp only [List.length_map]; assumption) | (simp only [List.length_map, List.length_replicate]; done) | (simp; done))) | (exact Src.ownS (by (solve | (repeat (first | exact List.Mem.head _ | apply List.Mem.tail))))) | (exact Src.own (by (solve | (repeat (first | exact List.Mem.head _ | apply List.Mem.tail))))) | (exact Src.sls (by (solve | (repeat (first | exact List.Mem.head _ | apply List.Mem.tail))))) | (exact Src.celI (by (solve | (repeat (first | exact List.Mem.head _ | apply List.Mem.tail)))) (by first | rfl | assumption | (simp only [List.length_map]; assumption) | (simp only [List.length_map, List.length_replicate]; done) | (simp; done)))) (by first | exact one_map one8 _ | exact ones_spec rfl | exact one_map (fun _ => rfl) _ | (intro u hu; simp at hu; simp [hu, Value.oneCell'])) (by first | omega | (simp only [maxLen]; omega)) (by first | omega | (simp only [maxLen]; omega)) ?_
  intro ob5 cap5 ho5
  refine RL.assign rfl rfl rfl rfl ?_
  refine RL.nil ?_
  refine NQ.seq ?_
  refine CW.only (.cons (k := 2) rfl .nil) ?_
  refine CW.ret ?_
  -- STOP: ret; end
  skip
  all_goals (rw [own_is (n' := 14 + n) (xs' := bytes f.signed) (by omega) (by simp [Fr.signed])]; exact RQ.post (res1 rfl rfl) (.keep (Split.none _)) ⟨_, _, rfl, rfl, rfl, by omega⟩)
end Go.Proofs.Ytkkfdoippibfkaa

namespace Go.Proofs.Ytkkfdoippibfkaa
open Go.PK

/-- A frame with its tag. -/
def Fr.sign (f : Fr) (k : List B8) : Fr := { f with tag := macTag (deriveK k epochL f.ep) f.signed }
theorem sign_seg (f : Fr) (sl : Value) : f.cells sl = [.int .i64 f.kd, .int .i64 f.sr, .int .u32 (f.ep : Int), .int .u64 (f.ct : Int), sl] ++ (bytes f.tag ++ []) := by simp [Fr.cells]
theorem Fr.sign_ok {f : Fr} (h : f.Ok) (k : List B8) : (f.sign k).Ok := ⟨h.ep, h.ct, macTag_len _ _⟩
theorem one_sl (p : Option Addr) (n c : Nat) : (Value.slice p n c).oneCell' = true := rfl
theorem sign_any (f : Fr) (k : List B8) (p : Option Addr) (c n : Nat) (hk : k.length = 32) (hf : f.Ok) (hn : f.b.length = n) (hb : n ≤ 900000) : Spc Try.prog 42 #[.agg (bytes k).toArray, .agg (f.cells (.slice p n c)).toArray] [sls p 1 n (bytes f.b)] [] (Is (.agg ((f.sign k).cells (.slice p n c)).toArray)) := by
  have hl := fr_len hf.tag (.slice p n c)
  have hl2 := fr_len (f.sign_ok hf k).tag (.slice p n c)
  have hsl := signed_len f
  refine Spc.enter Try.func42 rfl rfl rfl (fun w0 hw0 => ?_)
  refine CW.seq ?_
  refine CW.region (ef := [0, 1, 2]) (bk := []) ?_
  refine RL.box rfl rfl rfl rfl rfl rfl ?_
  intro b1
  refine RL.box rfl rfl rfl rfl rfl rfl ?_
  intro b2
  refine RL.alloc Try.zeroValue99 rfl rfl rfl rfl rfl ?_
  intro b3
  refine RL.nil ?_
  refine NQ.seq ?_
  refine CW.seq ?_
  refine CW.regionD (Sq.of [0, 1, 2, 3, 4, 5, 6, 7, 8, 9, 10]) [6, 7, 10] [10] [1, 3, 9] mixed (by kernel_rfl) ?_
  first | refine RL.loadM Try.isAgg35 Try.sizeOf35 rfl rfl rfl rfl (by assumption) ?_ | refine RL.loadA Try.isAgg35 Try.sizeOf35 rfl rfl rfl rfl (by first | assumption | (apply RdsI.rds; assumption)) (by first | rfl | assumption | (simp only [List.length_map]; assumption) | (simp only [List.length_map, List.length_replicate, hk, hl]; done) | (simp; done)) ?_ | refine RL.loadW Try.isAgg35 Try.sizeOf35 rfl rfl rfl rfl (by (solve | (repeat (first | exact List.Mem.head _ | apply List.Mem.tail)))) (by first | rfl | assumption | (simp only [List.length_map]; assumption) | (simp only [List.length_map, List.length_replicate, hk, hl]; done) | (simp; done)) ?_
  refine RL.fieldAddr fa_99_2 rfl rfl rfl rfl ?_
  refine RL.load Try.isAgg31 rfl rfl rfl rfl (by first | assumption | (apply RdI.rd; assumption) | (apply Rd.get; (solve | (repeat (first | exact List.Mem.head _ | apply List.Mem.tail))); assumption) | (apply Rd.getS; (solve | (repeat (first | exact List.Mem.head _ | apply List.Mem.tail))); assumption) | (apply Rd.getO; (solve | (repeat (first | exact List.Mem.head _ | apply List.Mem.tail))); assumption) | (apply Rd.getI; (solve | (repeat (first | exact List.Mem.head _ | apply List.Mem.tail))); assumption) | (apply Rd.cel; (solve | (repeat (first | exact List.Mem.head _ | apply List.Mem.tail))); exact rfl) | (apply Rd.celI; (solve | (repeat (first | exact List.Mem.head _ | apply List.Mem.tail))); exact rfl)) ?_
  refine RL.conv Try.runUnderlying31 Try.runUnderlying50 rfl rfl rfl rfl ?_
  refine RL.callv (derive_w k hk epochL (by decide) f.ep hf.ep) Try.call98 rfl rfl rfl rfl (by repeat (first | exact Lend.nil | (refine Lend.inI ?_ ?_; (solve | (repeat (first | exact List.Mem.head _ | apply List.Mem.tail)))) | (refine Lend.inH ?_ ?_; (solve | (repeat (first | exact List.Mem.head _ | apply List.Mem.tail)))))) ?_
  first | refine RL.loadM Try.isAgg99 Try.sizeOf99 rfl rfl rfl rfl (by assumption) ?_ | refine RL.loadA Try.isAgg99 Try.sizeOf99 rfl rfl rfl rfl (by first | assumption | (apply RdsI.rds; assumption)) (by first | rfl | assumption | (simp only [List.length_map]; assumption) | (simp only [List.length_map, List.length_replicate, hk, hl]; done) | (simp; done)) ?_ | refine RL.loadW Try.isAgg99 Try.sizeOf99 rfl rfl rfl rfl (by (solve | (repeat (first | exact List.Mem.head _ | apply List.Mem.tail)))) (by first | rfl | assumption | (simp only [List.length_map]; assumption) | (simp only [List.length_map, List.length_replicate, hk, hl]; done) | (simp; done)) ?_
  refine RL.call (signed_any f p c n hf hn hb) Try.call99 rfl rfl rfl rfl rfl (by repeat (first | exact Pick.nil | apply Pick.take | apply Pick.leave)) (by repeat (first | exact Lend.nil | (refine Lend.inI ?_ ?_; (solve | (repeat (first | exact List.Mem.head _ | apply List.Mem.tail)))) | (refine Lend.inH ?_ ?_; (solve | (repeat (first | exact List.Mem.head _ | apply List.Mem.tail)))))) (.inl rfl) ?_
  rintro _ _ _ ⟨ob1, cap1, rfl, rfl, rfl, ho1⟩
  refine RL.buildSlice [_] Try.runUnderlying281 Try.sizeOf95 Try.zeroValue95 rfl rfl (by decide) (by decide) rfl rfl rfl rfl rfl rfl ?_
  intro b4
  refine RL.callv (tag_any (deriveK k epochL f.ep) (derive_len _ _ _) (some ⟨b4, 0, none⟩) 1 1 [⟨ob1.map fun b => ⟨b, 0, none⟩, cap1, f.signed⟩] rfl (by decide) (by simp [joined]; omega)) Try.call97 rfl rfl rfl rfl (Lend.allX (by repeat (first | exact List.Mem.head _ | apply List.Mem.tail)) rfl rfl (Lend.own (by repeat (first | exact List.Mem.head _ | apply List.Mem.tail)) .nil)) ?_
  refine RL.fieldAddr fa_99_5 rfl rfl rfl rfl ?_
  -- STOP: op; op 10: d=None ["store", 97, ["t", 14], ["t", 13]] guard=None (auth.go:168)
  rw [show joined [⟨ob1.map fun b => ⟨b, 0, none⟩, cap1, f.signed⟩] = f.signed by simp [joined]]
  refine RL.storeSeg (cs := f.cells (.slice p n c)) (cs' := (f.sign k).cells (.slice p n c)) (vs := bytes (macTag (deriveK k epochL f.ep) f.signed)) [.int .i64 f.kd, .int .i64 f.sr, .int .u32 (f.ep : Int), .int .u64 (f.ct : Int), .slice p n c] (bytes f.tag) [] Try.sizeOf97 rfl rfl rfl rfl rfl rfl rfl (ones_map one8 _) (sign_seg f _) (by rw [sign_seg]; rfl) rfl (by rw [List.length_map, hf.tag]) (by rw [List.length_map, macTag_len]) (by repeat (first | exact Upd.here | apply Upd.there)) ?_
  refine RL.nil ?_
  refine NQ.seq ?_
  refine CW.only (.cons (k := 3) rfl (.cons (k := 4) rfl .nil)) ?_
  refine CW.seq ?_
  refine CW.region (ef := [1]) (bk := [1]) ?_
  first | refine RL.loadM Try.isAgg99 Try.sizeOf99 rfl rfl rfl rfl (by assumption) ?_ | refine RL.loadA Try.isAgg99 Try.sizeOf99 rfl rfl rfl rfl (by first | assumption | (apply RdsI.rds; assumption)) (by first | rfl | assumption | (simp only [List.length_map]; assumption) | (simp only [List.length_map, List.length_replicate, hk, hl]; done) | (simp; done)) ?_ | refine RL.loadW Try.isAgg99 Try.sizeOf99 rfl rfl rfl rfl (by (solve | (repeat (first | exact List.Mem.head _ | apply List.Mem.tail)))) (by first | rfl | assumption | (simp only [List.length_map]; assumption) | (simp only [List.length_map, List.length_replicate, hk, hl]; done) | (simp; done)) ?_
  -- STOP: op; op 1: d=None ["store", 99, ["t", 4], ["t", 15]] guard=None (auth.go:169)
  refine RL.storeW Try.sizeOf99 rfl rfl rfl rfl rfl rfl rfl (ones_fr _ rfl) (by repeat (first | exact Upd.here | apply Upd.there)) hl2 rfl ?_
  refine RL.nil ?_
  refine NQ.seq ?_
  refine CW.ret ?_
  -- STOP: ret; end
  exact RQ.post (resW rfl rfl Try.isAgg99 Try.sizeOf99 (by repeat (first | exact List.Mem.head _ | apply List.Mem.tail)) hl2) (Split.none _) ⟨rfl, rfl, rfl⟩
theorem rsign_any (f : Fr) (k : List B8) (p : Option Addr) (c n : Nat) (hk : k.length = 32) (hf : f.Ok) (hn : f.b.length = n) (hb : n ≤ 900000) : Spc Try.prog 43 #[.agg (bytes k).toArray, .agg (f.cells (.slice p n c)).toArray] [sls p 1 n (bytes f.b)] [] (Is (.agg ((f.sign k).cells (.slice p n c)).toArray)) := by
  have hl := fr_len hf.tag (.slice p n c)
  have hl2 := fr_len (f.sign_ok hf k).tag (.slice p n c)
  have hsl := signed_len f
  refine Spc.enter Try.func43 rfl rfl rfl (fun w0 hw0 => ?_)
  refine CW.seq ?_
  refine CW.region (ef := [0, 1, 2]) (bk := []) ?_
  refine RL.box rfl rfl rfl rfl rfl rfl ?_
  intro b1
  refine RL.box rfl rfl rfl rfl rfl rfl ?_
  intro b2
  refine RL.alloc Try.zeroValue99 rfl rfl rfl rfl rfl ?_
  intro b3
  refine RL.nil ?_
  refine NQ.seq ?_
  refine CW.seq ?_
  refine CW.regionD (Sq.of [0, 1, 2, 3, 4, 5, 6, 7, 8, 9]) [6, 9] [9] [1, 3, 8] mixed (by kernel_rfl) ?_
  first | refine RL.loadM Try.isAgg35 Try.sizeOf35 rfl rfl rfl rfl (by assumption) ?_ | refine RL.loadA Try.isAgg35 Try.sizeOf35 rfl rfl rfl rfl (by first | assumption | (apply RdsI.rds; assumption)) (by first | rfl | assumption | (simp only [List.length_map]; assumption) | (simp only [List.length_map, List.length_replicate, hk, hl]; done) | (simp; done)) ?_ | refine RL.loadW Try.isAgg35 Try.sizeOf35 rfl rfl rfl rfl (by (solve | (repeat (first | exact List.Mem.head _ | apply List.Mem.tail)))) (by first | rfl | assumption | (simp only [List.length_map]; assumption) | (simp only [List.length_map, List.length_replicate, hk, hl]; done) | (simp; done)) ?_
  refine RL.fieldAddr fa_99_2 rfl rfl rfl rfl ?_
  refine RL.load Try.isAgg31 rfl rfl rfl rfl (by first | assumption | (apply RdI.rd; assumption) | (apply Rd.get; (solve | (repeat (first | exact List.Mem.head _ | apply List.Mem.tail))); assumption) | (apply Rd.getS; (solve | (repeat (first | exact List.Mem.head _ | apply List.Mem.tail))); assumption) | (apply Rd.getO; (solve | (repeat (first | exact List.Mem.head _ | apply List.Mem.tail))); assumption) | (apply Rd.getI; (solve | (repeat (first | exact List.Mem.head _ | apply List.Mem.tail))); assumption) | (apply Rd.cel; (solve | (repeat (first | exact List.Mem.head _ | apply List.Mem.tail))); exact rfl) | (apply Rd.celI; (solve | (repeat (first | exact List.Mem.head _ | apply List.Mem.tail))); exact rfl)) ?_
  refine RL.conv Try.runUnderlying31 Try.runUnderlying50 rfl rfl rfl rfl ?_
  refine RL.callv (rderive_w k hk epochL (by decide) f.ep hf.ep) Try.call101 rfl rfl rfl rfl (by repeat (first | exact Lend.nil | (refine Lend.inI ?_ ?_; (solve | (repeat (first | exact List.Mem.head _ | apply List.Mem.tail)))) | (refine Lend.inH ?_ ?_; (solve | (repeat (first | exact List.Mem.head _ | apply List.Mem.tail)))))) ?_
  first | refine RL.loadM Try.isAgg99 Try.sizeOf99 rfl rfl rfl rfl (by assumption) ?_ | refine RL.loadA Try.isAgg99 Try.sizeOf99 rfl rfl rfl rfl (by first | assumption | (apply RdsI.rds; assumption)) (by first | rfl | assumption | (simp only [List.length_map]; assumption) | (simp only [List.length_map, List.length_replicate, hk, hl]; done) | (simp; done)) ?_ | refine RL.loadW Try.isAgg99 Try.sizeOf99 rfl rfl rfl rfl (by (solve | (repeat (first | exact List.Mem.head _ | apply List.Mem.tail)))) (by first | rfl | assumption | (simp only [List.length_map]; assumption) | (simp only [List.length_map, List.length_replicate, hk, hl]; done) | (simp; done)) ?_
  refine RL.call (rsigned_any f p c n hf hn hb) Try.call102 rfl rfl rfl rfl rfl (by repeat (first | exact Pick.nil | apply Pick.take | apply Pick.leave)) (by repeat (first | exact Lend.nil | (refine Lend.inI ?_ ?_; (solve | (repeat (first | exact List.Mem.head _ | apply List.Mem.tail)))) | (refine Lend.inH ?_ ?_; (solve | (repeat (first | exact List.Mem.head _ | apply List.Mem.tail)))))) (.inl rfl) ?_
  rintro _ _ _ ⟨ob1, cap1, rfl, rfl, rfl, ho1⟩
  refine RL.callv (rtag_any (deriveK k epochL f.ep) (derive_len _ _ _) (ob1.map fun b => ⟨b, 0, none⟩) (14 + n) cap1 f.signed (by omega) (by omega)) Try.call100 rfl rfl rfl rfl (Lend.own (by repeat (first | exact List.Mem.head _ | apply List.Mem.tail)) .nil) ?_
  refine RL.fieldAddr fa_99_5 rfl rfl rfl rfl ?_
  -- STOP: op; op 9: d=None ["store", 97, ["t", 13], ["t", 12]] guard=None (ref.go:123)
  refine RL.storeSeg (cs := f.cells (.slice p n c)) (cs' := (f.sign k).cells (.slice p n c)) (vs := bytes (macTag (deriveK k epochL f.ep) f.signed)) [.int .i64 f.kd, .int .i64 f.sr, .int .u32 (f.ep : Int), .int .u64 (f.ct : Int), .slice p n c] (bytes f.tag) [] Try.sizeOf97 rfl rfl rfl rfl rfl rfl rfl (ones_map one8 _) (sign_seg f _) (by rw [sign_seg]; rfl) rfl (by rw [List.length_map, hf.tag]) (by rw [List.length_map, macTag_len]) (by repeat (first | exact Upd.here | apply Upd.there)) ?_
  refine RL.nil ?_
  refine NQ.seq ?_
  refine CW.only (.cons (k := 3) rfl (.cons (k := 4) rfl .nil)) ?_
  refine CW.seq ?_
  refine CW.region (ef := [1]) (bk := [1]) ?_
  first | refine RL.loadM Try.isAgg99 Try.sizeOf99 rfl rfl rfl rfl (by assumption) ?_ | refine RL.loadA Try.isAgg99 Try.sizeOf99 rfl rfl rfl rfl (by first | assumption | (apply RdsI.rds; assumption)) (by first | rfl | assumption | (simp only [List.length_map]; assumption) | (simp only [List.length_map, List.length_replicate, hk, hl]; done) | (simp; done)) ?_ | refine RL.loadW Try.isAgg99 Try.sizeOf99 rfl rfl rfl rfl (by (solve | (repeat (first | exact List.Mem.head _ | apply List.Mem.tail)))) (by first | rfl | assumption | (simp only [List.length_map]; assumption) | (simp only [List.length_map, List.length_replicate, hk, hl]; done) | (simp; done)) ?_
  -- STOP: op; op 1: d=None ["store", 99, ["t", 4], ["t", 14]] guard=None (ref.go:124)
  refine RL.storeW Try.sizeOf99 rfl rfl rfl rfl rfl rfl rfl (ones_fr _ rfl) (by repeat (first | exact Upd.here | apply Upd.there)) hl2 rfl ?_
  refine RL.nil ?_
  refine NQ.seq ?_
  refine CW.ret ?_
  -- STOP: ret; end
  exact RQ.post (resW rfl rfl Try.isAgg99 Try.sizeOf99 (by repeat (first | exact List.Mem.head _ | apply List.Mem.tail)) hl2) (Split.none _) ⟨rfl, rfl, rfl⟩
/-- At most sixty bytes. -/
def Fr.few (f : Fr) (m : Nat) : Fr := { f with b := f.b.take m }
def FewR (f : Fr) (n : Nat) : Value → List It → List It → Prop := fun v I' H' => ∃ ob cap, v = .agg (f.cells (slO ob n cap)).toArray ∧ I' = [] ∧ H' = [own ob cap 5 1 n (bytes f.b)] ∧ True
end Go.Proofs.Ytkkfdoippibfkaa

namespace Go.Proofs.Ytkkfdoippibfkaa
open Go.PK

theorem few_min19 (n : Nat) : min (n : Int) 60 = ((min n 60 : Nat) : Int) := by omega
theorem few_all19 {p : Option Addr} {c : Nat} : (if c = 0 then p else p.map (·.add (0 * 1))) = p := by
  cases p with
  | none => split <;> rfl
  | some a => split <;> simp [Addr.add]
theorem few19_any (f : Fr) (p : Option Addr) (c n : Nat) (hf : f.Ok) (hn : f.b.length = n) (hc : n ≤ c) (hb : n ≤ maxLen) : Spc Try.prog 40 #[.agg (f.cells (.slice p n c)).toArray] [sls p 1 n (bytes f.b)] [] (FewR (f.few 60) (min n 60)) := by
  subst hn
  have hm : (f.b.take 60).length = min f.b.length 60 := by rw [List.length_take]; omega
  have hl := fr_len hf.tag (.slice p f.b.length c)
  have hby := OwnB.n hm (bytes_any p c (f.b.take 60) (by omega))
  rw [hm] at hby
  have hle : ∀ F : List It, Lend [sls p 1 f.b.length (bytes f.b)] F [sls p 1 (min f.b.length 60) (bytes (f.b.take 60))] := fun F => by
    have := Lend.takeB (I := [sls p 1 f.b.length (bytes f.b)]) (F := F) (p := p) (c := c) (k := 60) (m := f.b) (List.Mem.head _) hc .nil
    rw [few_all19, hm] at this
    exact this
  refine Spc.enter Try.func40 rfl rfl rfl (fun w0 hw0 => ?_)
  refine CW.seq ?_
  refine CW.region (ef := [0, 1]) (bk := []) ?_
  refine RL.box rfl rfl rfl rfl rfl rfl ?_
  intro b1
  refine RL.alloc Try.zeroValue99 rfl rfl rfl rfl rfl ?_
  intro b2
  refine RL.nil ?_
  refine NQ.seq ?_
  refine CW.seq ?_
  refine CW.region (ef := [7, 9]) (bk := [9]) ?_
  refine RL.fieldAddr fa_99_4 rfl rfl rfl rfl ?_
  refine RL.load Try.isAgg95 rfl rfl rfl rfl (by first | assumption | (apply RdI.rd; assumption) | (apply Rd.get; (solve | (repeat (first | exact List.Mem.head _ | apply List.Mem.tail))); assumption) | (apply Rd.getS; (solve | (repeat (first | exact List.Mem.head _ | apply List.Mem.tail))); assumption) | (apply Rd.getO; (solve | (repeat (first | exact List.Mem.head _ | apply List.Mem.tail))); assumption) | (apply Rd.getI; (solve | (repeat (first | exact List.Mem.head _ | apply List.Mem.tail))); assumption) | (apply Rd.cel; (solve | (repeat (first | exact List.Mem.head _ | apply List.Mem.tail))); exact rfl) | (apply Rd.celI; (solve | (repeat (first | exact List.Mem.head _ | apply List.Mem.tail))); exact rfl)) ?_
  refine RL.fieldAddr fa_99_4 rfl rfl rfl rfl ?_
  refine RL.load Try.isAgg95 rfl rfl rfl rfl (by first | assumption | (apply RdI.rd; assumption) | (apply Rd.get; (solve | (repeat (first | exact List.Mem.head _ | apply List.Mem.tail))); assumption) | (apply Rd.getS; (solve | (repeat (first | exact List.Mem.head _ | apply List.Mem.tail))); assumption) | (apply Rd.getO; (solve | (repeat (first | exact List.Mem.head _ | apply List.Mem.tail))); assumption) | (apply Rd.getI; (solve | (repeat (first | exact List.Mem.head _ | apply List.Mem.tail))); assumption) | (apply Rd.cel; (solve | (repeat (first | exact List.Mem.head _ | apply List.Mem.tail))); exact rfl) | (apply Rd.celI; (solve | (repeat (first | exact List.Mem.head _ | apply List.Mem.tail))); exact rfl)) ?_
  refine RL.lenS Try.runUnderlying95 rfl rfl rfl rfl ?_
  refine RL.min rfl rfl rfl rfl rfl ?_
  -- STOP: op; op 6: d=9 ["slice", 95, ["t", 4], null, ["t", 8], null] guard=None (law.go:29)
  rw [few_min19]
  refine RL.slice (lo := 0) (hi := min f.b.length 60) Try.runUnderlying95 Try.sizeOf5 rfl rfl rfl rfl rfl rfl (by omega) (by omega) ?_
  rw [few_all19, Nat.sub_zero, Nat.sub_zero]
  refine RL.call (hby) Try.call96 rfl rfl rfl rfl rfl (by repeat (first | exact Pick.nil | apply Pick.take | apply Pick.leave)) (hle _) (.inl rfl) ?_
  rintro _ _ _ ⟨ob1, cap1, rfl, rfl, rfl, ho1⟩
  refine RL.fieldAddr fa_99_4 rfl rfl rfl rfl ?_
  -- STOP: op; op 9: d=None ["store", 95, ["t", 11], ["t", 10]] guard=None (law.go:29)
  refine RL.storeSeg (cs := f.cells (.slice p f.b.length c)) (cs' := (f.few 60).cells (slO ob1 (min f.b.length 60) cap1)) (vs := [slO ob1 (min f.b.length 60) cap1]) [.int .i64 f.kd, .int .i64 f.sr, .int .u32 (f.ep : Int), .int .u64 (f.ct : Int)] [.slice p f.b.length c] (bytes f.tag) Try.sizeOf95 rfl rfl rfl rfl rfl rfl rfl rfl rfl rfl rfl rfl rfl (by repeat (first | exact Upd.here | apply Upd.there)) ?_
  refine RL.nil ?_
  refine NQ.seq ?_
  refine CW.only (.cons (k := 1) rfl (.cons (k := 2) rfl .nil)) ?_
  refine CW.seq ?_
  refine CW.region (ef := [1]) (bk := [1]) ?_
  -- STOP: op; op 0: d=12 ["load", 99, ["t", 1]] guard=None (law.go:30)
  have hl2 := fr_len (f := f.few 60) hf.tag (slO ob1 (min f.b.length 60) cap1)
  refine RL.loadW Try.isAgg99 Try.sizeOf99 rfl rfl rfl rfl (by repeat (first | exact List.Mem.head _ | apply List.Mem.tail)) hl2 ?_
  -- STOP: op; op 1: d=None ["store", 99, ["t", 2], ["t", 12]] guard=None (law.go:30)
  refine RL.storeW Try.sizeOf99 rfl rfl rfl rfl rfl rfl rfl (ones_fr _ rfl) (by repeat (first | exact Upd.here | apply Upd.there)) hl2 rfl ?_
  refine RL.nil ?_
  refine NQ.seq ?_
  refine CW.ret ?_
  -- STOP: ret; end
  refine RQ.rea (fun _ h => h) (H' := [own ob1 cap1 5 1 (min f.b.length 60) (bytes (f.few 60).b), cel b2 ((f.few 60).cells (slO ob1 (min f.b.length 60) cap1)) 99]) (by repeat (first | exact Rea.nil | (apply Rea.cons; (solve | (repeat (first | exact Del.here | apply Del.there)))))) ?_
  exact RQ.post (resW rfl rfl Try.isAgg99 Try.sizeOf99 (by repeat (first | exact List.Mem.head _ | apply List.Mem.tail)) hl2) (.keep (Split.none _)) ⟨ob1, cap1, rfl, rfl, rfl, trivial⟩
end Go.Proofs.Ytkkfdoippibfkaa

namespace Go.Proofs.Ytkkfdoippibfkaa
open Go.PK

theorem tag_eq (l1 l2 : List B8) (h1 : l1.length = 16) (h2 : l2.length = 16) (x y : Operand) (w : World) : (do eqGuard .eql 97 x y (.agg (bytes l1).toArray) (.agg (bytes l2).toArray); binOp .eql 97 (.agg (bytes l1).toArray) (.agg (bytes l2).toArray) : Sem Value).run Try.prog w = .ok (.bool (l1 == l2)) w :=
  eql_arr8 (e := 5) (by kernel_rfl) (ii := Try.t5) (by kernel_rfl) (by kernel_rfl) Try.isAgg5 Try.runUnderlying5 (by kernel_rfl) l1 l2 h1 h2 w
theorem frsame_refl (f : Fr) (p q : Option Addr) (n m c d : Nat) (hf : f.Ok) : Spc Try.prog 41 #[.agg (f.cells (.slice p n c)).toArray, .agg (f.cells (.slice q m d)).toArray] [sls p 1 n (bytes f.b), sls q 1 m (bytes f.b)] [] (Is (.bool true)) := by
  have hl := fr_len hf.tag (.slice p n c)
  have hlt : (bytes f.tag).length = 16 := by rw [List.length_map, hf.tag]
  have ht := hf.tag
  refine Spc.enter Try.func41 rfl rfl rfl (fun w0 hw0 => ?_)
  refine CW.seq ?_
  refine CW.region (ef := [0, 1]) (bk := []) ?_
  refine RL.box rfl rfl rfl rfl rfl rfl ?_
  intro b1
  refine RL.box rfl rfl rfl rfl rfl rfl ?_
  intro b2
  refine RL.assign rfl rfl rfl rfl ?_
  refine RL.nil ?_
  refine NQ.seq ?_
  refine CW.seq ?_
  -- STOP: region; todo top: ["code", ["region", 1, [{"d": 5, "op": ["fieldAddr", 99, ["t", 2], 0], "ty": 0, "pos": "ref.go:69", "after": [], "guard": null}, {"d": 6, "op": ["load", 3, ["t", 5]], "ty": 3, "pos": "ref.go:69", "aft
  refine CW.freezeP (A := [_, _]) (B := []) (.take (.take .nil)) rfl ?_
  have f1 : RdsN [cel b2 (f.cells (.slice q m d)) 99, cel b1 (f.cells (.slice p n c)) 99, sls p 1 n (bytes f.b), sls q 1 m (bytes f.b)] ⟨b1, 0 + 5, none⟩ 16 (bytes f.tag) := RdsN.told (by repeat (first | exact List.Mem.head _ | apply List.Mem.tail)) (fr_tag f _) hlt
  have f2 : RdsN [cel b2 (f.cells (.slice q m d)) 99, cel b1 (f.cells (.slice p n c)) 99, sls p 1 n (bytes f.b), sls q 1 m (bytes f.b)] ⟨b2, 0 + 5, none⟩ 16 (bytes f.tag) := RdsN.told (by repeat (first | exact List.Mem.head _ | apply List.Mem.tail)) (fr_tag f _) hlt
  refine CW.region (ef := []) (bk := []) ?_
  refine RL.fieldAddr fa_99_0 rfl rfl rfl rfl ?_
  refine RL.load Try.isAgg3 rfl rfl rfl rfl (by first | assumption | (apply RdI.rd; assumption) | (apply Rd.get; (solve | (repeat (first | exact List.Mem.head _ | apply List.Mem.tail))); assumption) | (apply Rd.getS; (solve | (repeat (first | exact List.Mem.head _ | apply List.Mem.tail))); assumption) | (apply Rd.getO; (solve | (repeat (first | exact List.Mem.head _ | apply List.Mem.tail))); assumption) | (apply Rd.getI; (solve | (repeat (first | exact List.Mem.head _ | apply List.Mem.tail))); assumption) | (apply Rd.cel; (solve | (repeat (first | exact List.Mem.head _ | apply List.Mem.tail))); exact rfl) | (apply Rd.celI; (solve | (repeat (first | exact List.Mem.head _ | apply List.Mem.tail))); exact rfl)) ?_
  refine RL.fieldAddr fa_99_0 rfl rfl rfl rfl ?_
  refine RL.load Try.isAgg3 rfl rfl rfl rfl (by first | assumption | (apply RdI.rd; assumption) | (apply Rd.get; (solve | (repeat (first | exact List.Mem.head _ | apply List.Mem.tail))); assumption) | (apply Rd.getS; (solve | (repeat (first | exact List.Mem.head _ | apply List.Mem.tail))); assumption) | (apply Rd.getO; (solve | (repeat (first | exact List.Mem.head _ | apply List.Mem.tail))); assumption) | (apply Rd.getI; (solve | (repeat (first | exact List.Mem.head _ | apply List.Mem.tail))); assumption) | (apply Rd.cel; (solve | (repeat (first | exact List.Mem.head _ | apply List.Mem.tail))); exact rfl) | (apply Rd.celI; (solve | (repeat (first | exact List.Mem.head _ | apply List.Mem.tail))); exact rfl)) ?_
  refine RL.bin rfl rfl rfl rfl rfl rfl ?_
  refine RL.move rfl rfl rfl rfl ?_
  -- STOP: part 10; op 6: d=11 ["fieldAddr", 99, ["t", 2], 1] guard=[5, True] (ref.go:69)
  refine RL.cast (d := 10) (v' := .bool true) rfl ((by simp)) ?_
  refine RL.fieldAddr fa_99_1 rfl rfl rfl rfl ?_
  refine RL.load Try.isAgg3 rfl rfl rfl rfl (by first | assumption | (apply RdI.rd; assumption) | (apply Rd.get; (solve | (repeat (first | exact List.Mem.head _ | apply List.Mem.tail))); assumption) | (apply Rd.getS; (solve | (repeat (first | exact List.Mem.head _ | apply List.Mem.tail))); assumption) | (apply Rd.getO; (solve | (repeat (first | exact List.Mem.head _ | apply List.Mem.tail))); assumption) | (apply Rd.getI; (solve | (repeat (first | exact List.Mem.head _ | apply List.Mem.tail))); assumption) | (apply Rd.cel; (solve | (repeat (first | exact List.Mem.head _ | apply List.Mem.tail))); exact rfl) | (apply Rd.celI; (solve | (repeat (first | exact List.Mem.head _ | apply List.Mem.tail))); exact rfl)) ?_
  refine RL.fieldAddr fa_99_1 rfl rfl rfl rfl ?_
  refine RL.load Try.isAgg3 rfl rfl rfl rfl (by first | assumption | (apply RdI.rd; assumption) | (apply Rd.get; (solve | (repeat (first | exact List.Mem.head _ | apply List.Mem.tail))); assumption) | (apply Rd.getS; (solve | (repeat (first | exact List.Mem.head _ | apply List.Mem.tail))); assumption) | (apply Rd.getO; (solve | (repeat (first | exact List.Mem.head _ | apply List.Mem.tail))); assumption) | (apply Rd.getI; (solve | (repeat (first | exact List.Mem.head _ | apply List.Mem.tail))); assumption) | (apply Rd.cel; (solve | (repeat (first | exact List.Mem.head _ | apply List.Mem.tail))); exact rfl) | (apply Rd.celI; (solve | (repeat (first | exact List.Mem.head _ | apply List.Mem.tail))); exact rfl)) ?_
  refine RL.bin rfl rfl rfl rfl rfl rfl ?_
  refine RL.pickT rfl rfl rfl rfl rfl ?_
  refine RL.move rfl rfl rfl rfl ?_
  -- STOP: part 17; op 13: d=18 ["fieldAddr", 99, ["t", 2], 2] guard=[12, True] (ref.go:69)
  refine RL.cast (d := 17) (v' := .bool true) rfl ((by simp)) ?_
  refine RL.fieldAddr fa_99_2 rfl rfl rfl rfl ?_
  refine RL.load Try.isAgg31 rfl rfl rfl rfl (by first | assumption | (apply RdI.rd; assumption) | (apply Rd.get; (solve | (repeat (first | exact List.Mem.head _ | apply List.Mem.tail))); assumption) | (apply Rd.getS; (solve | (repeat (first | exact List.Mem.head _ | apply List.Mem.tail))); assumption) | (apply Rd.getO; (solve | (repeat (first | exact List.Mem.head _ | apply List.Mem.tail))); assumption) | (apply Rd.getI; (solve | (repeat (first | exact List.Mem.head _ | apply List.Mem.tail))); assumption) | (apply Rd.cel; (solve | (repeat (first | exact List.Mem.head _ | apply List.Mem.tail))); exact rfl) | (apply Rd.celI; (solve | (repeat (first | exact List.Mem.head _ | apply List.Mem.tail))); exact rfl)) ?_
  refine RL.fieldAddr fa_99_2 rfl rfl rfl rfl ?_
  refine RL.load Try.isAgg31 rfl rfl rfl rfl (by first | assumption | (apply RdI.rd; assumption) | (apply Rd.get; (solve | (repeat (first | exact List.Mem.head _ | apply List.Mem.tail))); assumption) | (apply Rd.getS; (solve | (repeat (first | exact List.Mem.head _ | apply List.Mem.tail))); assumption) | (apply Rd.getO; (solve | (repeat (first | exact List.Mem.head _ | apply List.Mem.tail))); assumption) | (apply Rd.getI; (solve | (repeat (first | exact List.Mem.head _ | apply List.Mem.tail))); assumption) | (apply Rd.cel; (solve | (repeat (first | exact List.Mem.head _ | apply List.Mem.tail))); exact rfl) | (apply Rd.celI; (solve | (repeat (first | exact List.Mem.head _ | apply List.Mem.tail))); exact rfl)) ?_
  refine RL.bin rfl rfl rfl rfl rfl rfl ?_
  refine RL.pickT rfl rfl rfl rfl rfl ?_
  refine RL.move rfl rfl rfl rfl ?_
  -- STOP: part 24; op 20: d=25 ["fieldAddr", 99, ["t", 2], 3] guard=[19, True] (ref.go:69)
  refine RL.cast (d := 24) (v' := .bool true) rfl ((by simp)) ?_
  refine RL.fieldAddr fa_99_3 rfl rfl rfl rfl ?_
  refine RL.load Try.isAgg50 rfl rfl rfl rfl (by first | assumption | (apply RdI.rd; assumption) | (apply Rd.get; (solve | (repeat (first | exact List.Mem.head _ | apply List.Mem.tail))); assumption) | (apply Rd.getS; (solve | (repeat (first | exact List.Mem.head _ | apply List.Mem.tail))); assumption) | (apply Rd.getO; (solve | (repeat (first | exact List.Mem.head _ | apply List.Mem.tail))); assumption) | (apply Rd.getI; (solve | (repeat (first | exact List.Mem.head _ | apply List.Mem.tail))); assumption) | (apply Rd.cel; (solve | (repeat (first | exact List.Mem.head _ | apply List.Mem.tail))); exact rfl) | (apply Rd.celI; (solve | (repeat (first | exact List.Mem.head _ | apply List.Mem.tail))); exact rfl)) ?_
  refine RL.fieldAddr fa_99_3 rfl rfl rfl rfl ?_
  refine RL.load Try.isAgg50 rfl rfl rfl rfl (by first | assumption | (apply RdI.rd; assumption) | (apply Rd.get; (solve | (repeat (first | exact List.Mem.head _ | apply List.Mem.tail))); assumption) | (apply Rd.getS; (solve | (repeat (first | exact List.Mem.head _ | apply List.Mem.tail))); assumption) | (apply Rd.getO; (solve | (repeat (first | exact List.Mem.head _ | apply List.Mem.tail))); assumption) | (apply Rd.getI; (solve | (repeat (first | exact List.Mem.head _ | apply List.Mem.tail))); assumption) | (apply Rd.cel; (solve | (repeat (first | exact List.Mem.head _ | apply List.Mem.tail))); exact rfl) | (apply Rd.celI; (solve | (repeat (first | exact List.Mem.head _ | apply List.Mem.tail))); exact rfl)) ?_
  refine RL.bin rfl rfl rfl rfl rfl rfl ?_
  refine RL.pickT rfl rfl rfl rfl rfl ?_
  refine RL.move rfl rfl rfl rfl ?_
  -- STOP: part 31; op 27: d=32 ["fieldAddr", 99, ["t", 2], 4] guard=[26, True] (ref.go:69)
  refine RL.cast (d := 31) (v' := .bool true) rfl ((by simp)) ?_
  refine RL.fieldAddr fa_99_4 rfl rfl rfl rfl ?_
  refine RL.load Try.isAgg95 rfl rfl rfl rfl (by first | assumption | (apply RdI.rd; assumption) | (apply Rd.get; (solve | (repeat (first | exact List.Mem.head _ | apply List.Mem.tail))); assumption) | (apply Rd.getS; (solve | (repeat (first | exact List.Mem.head _ | apply List.Mem.tail))); assumption) | (apply Rd.getO; (solve | (repeat (first | exact List.Mem.head _ | apply List.Mem.tail))); assumption) | (apply Rd.getI; (solve | (repeat (first | exact List.Mem.head _ | apply List.Mem.tail))); assumption) | (apply Rd.cel; (solve | (repeat (first | exact List.Mem.head _ | apply List.Mem.tail))); exact rfl) | (apply Rd.celI; (solve | (repeat (first | exact List.Mem.head _ | apply List.Mem.tail))); exact rfl)) ?_
  refine RL.bytesStr (bs := f.b) (e := 5) (by kernel_rfl) (by kernel_rfl) (by kernel_rfl) rfl rfl rfl rfl (Src.sls (by repeat (first | exact List.Mem.head _ | apply List.Mem.tail))) ?_
  refine RL.fieldAddr fa_99_4 rfl rfl rfl rfl ?_
  refine RL.load Try.isAgg95 rfl rfl rfl rfl (by first | assumption | (apply RdI.rd; assumption) | (apply Rd.get; (solve | (repeat (first | exact List.Mem.head _ | apply List.Mem.tail))); assumption) | (apply Rd.getS; (solve | (repeat (first | exact List.Mem.head _ | apply List.Mem.tail))); assumption) | (apply Rd.getO; (solve | (repeat (first | exact List.Mem.head _ | apply List.Mem.tail))); assumption) | (apply Rd.getI; (solve | (repeat (first | exact List.Mem.head _ | apply List.Mem.tail))); assumption) | (apply Rd.cel; (solve | (repeat (first | exact List.Mem.head _ | apply List.Mem.tail))); exact rfl) | (apply Rd.celI; (solve | (repeat (first | exact List.Mem.head _ | apply List.Mem.tail))); exact rfl)) ?_
  refine RL.bytesStr (bs := f.b) (e := 5) (by kernel_rfl) (by kernel_rfl) (by kernel_rfl) rfl rfl rfl rfl (Src.sls (by repeat (first | exact List.Mem.head _ | apply List.Mem.tail))) ?_
  refine RL.cmp rfl rfl rfl rfl rfl (eql_txt f.b f.b) ?_
  refine RL.pickT rfl rfl rfl rfl rfl ?_
  refine RL.move rfl rfl rfl rfl ?_
  -- STOP: part 40; op 36: d=41 ["fieldAddr", 99, ["t", 2], 5] guard=[35, True] (ref.go:69)
  refine RL.cast (d := 40) (v' := .bool true) rfl ((by simp)) ?_
  refine RL.fieldAddr fa_99_5 rfl rfl rfl rfl ?_
  first | refine RL.loadM Try.isAgg97 Try.sizeOf97 rfl rfl rfl rfl (by assumption) ?_ | refine RL.loadA Try.isAgg97 Try.sizeOf97 rfl rfl rfl rfl (by first | assumption | (apply RdsI.rds; assumption)) (by first | rfl | assumption | (simp only [List.length_map]; assumption) | (simp only [List.length_map, List.length_replicate, ht]; done) | (simp; done)) ?_ | refine RL.loadW Try.isAgg97 Try.sizeOf97 rfl rfl rfl rfl (by (solve | (repeat (first | exact List.Mem.head _ | apply List.Mem.tail)))) (by first | rfl | assumption | (simp only [List.length_map]; assumption) | (simp only [List.length_map, List.length_replicate, ht]; done) | (simp; done)) ?_
  refine RL.fieldAddr fa_99_5 rfl rfl rfl rfl ?_
  first | refine RL.loadM Try.isAgg97 Try.sizeOf97 rfl rfl rfl rfl (by assumption) ?_ | refine RL.loadA Try.isAgg97 Try.sizeOf97 rfl rfl rfl rfl (by first | assumption | (apply RdsI.rds; assumption)) (by first | rfl | assumption | (simp only [List.length_map]; assumption) | (simp only [List.length_map, List.length_replicate, ht]; done) | (simp; done)) ?_ | refine RL.loadW Try.isAgg97 Try.sizeOf97 rfl rfl rfl rfl (by (solve | (repeat (first | exact List.Mem.head _ | apply List.Mem.tail)))) (by first | rfl | assumption | (simp only [List.length_map]; assumption) | (simp only [List.length_map, List.length_replicate, ht]; done) | (simp; done)) ?_
  refine RL.cmp rfl rfl rfl rfl rfl (tag_eq _ _ ht ht _ _) ?_
  refine RL.pickT rfl rfl rfl rfl rfl ?_
  refine RL.assign rfl rfl rfl rfl ?_
  refine RL.nil ?_
  refine NQ.seq ?_
  refine CW.only (.cons (k := 4) rfl .nil) ?_
  refine CW.ret ?_
  -- STOP: ret; end
  exact RQ.post (res1 rfl rfl) (Split.none _) ⟨by simp, rfl, rfl⟩
end Go.Proofs.Ytkkfdoippibfkaa
