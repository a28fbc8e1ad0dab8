import Derived.Test.YtflpiaeffnoepaaT1
import Derived.Test.YtflpiaeffnoepaaRNum36
import Derived.Test.YtflpiaeffnoepaaOwnN
namespace Go.Proofs.Ytflpiaeffnoepaa
open Go.PK

theorem Lend.celI {I F J : List It} {b sz nn : Nat} {cs : List Value} {T : TypeId} (hm : cel b cs T ∈ I) (hl : cs.length = nn * sz) (h : Lend I F J) : Lend I F (sls (some ⟨b, 0, none⟩) sz nn cs :: J) :=
  .of (fun w hw => cel_sls (hw.i _ hm) hl (fun j u hj => by rw [Nat.zero_add]; exact hj)) (fun c hc => .inl (mem_bss.2 ⟨_, hm, by simp [sls, cel] at hc ⊢; exact hc.2⟩)) h
theorem num_i (a : Int) (ha : 0 ≤ a) (n : Nat) (h0 : 0 < n) (hn : n ≤ 8) : Spc Try.prog 96 #[.int .i64 a, .int .i64 (n : Int)] [] [] (OwnM n (beN n a.toNat)) := by
  have h := num_any a.toNat n h0 hn
  rwa [Int.toNat_of_nonneg ha] at h
/-- What 'Next' tells. -/
def nextV (h : List B8) (x : Ent) : Value := .tuple #[.agg (bytes (if x.ok then nextD h x else zeros)).toArray, .int .i64 (if x.ok then 0 else 2)]
theorem next_yes {h : List B8} {x : Ent} (hx : x.ok = true) : nextV h x = .tuple #[.agg (bytes (nextD h x)).toArray, .int .i64 0] := by unfold nextV; rw [if_pos hx, if_pos hx]
theorem next_no {h : List B8} {x : Ent} (hx : x.ok = false) : nextV h x = .tuple #[.agg (bytes zeros).toArray, .int .i64 2] := by unfold nextV; rw [if_neg (by simp [hx]), if_neg (by simp [hx])]
theorem lenB (l : List B8) : (bytes l).length = l.length * 1 := by simp
theorem zeros32 : zeros.length = 32 := rfl
theorem of_n (pp : Option Addr) (n cap : Nat) (ps : List Part) (l : List B8) (hn : ps.length = n) (hj : joined ps = l) (h1 : n ≤ 1000000000) (hb : l.length ≤ 1000000000) (vs : List Value) (hv : ps.map Part.v = vs) :
    Spc Try.prog 95 #[.slice pp n cap] (sls pp 1 n vs :: ps.map Part.i) [] (Is (.agg (bytes (sha l)).toArray)) := by
  subst hn; subst hj; subst hv
  exact of_any pp cap ps h1 hb
theorem next_any (h : List B8) (hl : h.length = 32) (x : Ent) : Spc Try.prog 41 #[.agg (bytes h).toArray, .agg x.cells.toArray] [] [] (Is (nextV h x)) := by
  refine Spc.enter Try.func41 rfl rfl rfl (fun w0 hw0 => ?_)
  refine CW.seq ?_
  refine CW.region (ef := [0, 1, 2]) (bk := []) ?_
  refine RL.box rfl rfl rfl rfl rfl rfl ?_
  intro b1
  refine RL.box rfl rfl rfl rfl rfl rfl ?_
  intro b2
  refine RL.alloc (cs := List.replicate 32 (U8 0#8)) Try.zeroValue61 rfl rfl rfl rfl rfl ?_
  intro b3
  refine RL.assign rfl rfl rfl rfl ?_
  refine RL.nil ?_
  refine NQ.seq ?_
  refine CW.seq ?_
  refine CW.seq ?_
  -- STOP: region; todo top: ["code", ["region", 1, [{"d": 6, "op": ["load", 57, ["t", 3]], "ty": 57, "pos": "trace.go:55", "after": [], "guard": null}, {"d": 7, "op": ["call", ["f", 94], [["t", 6]], [57]], "ty": 4, "pos": "trace
  refine CW.freezeP (A := [_, _]) (B := [_]) (.leave (.take (.take .nil))) rfl ?_
  simp only [List.cons_append, List.nil_append]
  refine CW.region (ef := []) (bk := []) ?_
  first | refine RL.loadW Try.isAgg57 Try.sizeOf57 rfl rfl rfl rfl (by (solve | (repeat (first | exact List.Mem.head _ | apply List.Mem.tail)))) (by first | rfl | assumption | (simp only [List.length_map]; assumption) | (simp only [List.length_map, List.length_replicate, nextD_length, zeros32]; done) | (simp; done)) ?_ | refine RL.loadWI Try.isAgg57 Try.sizeOf57 rfl rfl rfl rfl (by (solve | (repeat (first | exact List.Mem.head _ | apply List.Mem.tail)))) (by first | rfl | assumption | (simp only [List.length_map]; assumption) | (simp only [List.length_map, List.length_replicate, nextD_length, zeros32]; done) | (simp; done)) ?_
  refine RL.callv (right_any x) Try.call94 rfl rfl rfl rfl (by repeat (first | exact Lend.nil | (refine Lend.inI ?_ ?_; (solve | (repeat (first | exact List.Mem.head _ | apply List.Mem.tail)))) | (refine Lend.inH ?_ ?_; (solve | (repeat (first | exact List.Mem.head _ | apply List.Mem.tail)))))) ?_
  refine RL.not rfl rfl rfl rfl ?_
  refine RL.nil ?_
  refine NQ.seq ?_
  -- STOP: if; todo top: ["code", ["cond", ["t", 8], ["seq", ["region", 2, [{"d": 9, "op": ["build", 61, []], "ty": 61, "pos": "trace.go:56", "after": [], "guard": null}, {"d": null, "op": ["store", 61, ["t", 4], ["t", 9]], "
  refine CW.cond rfl (fun hx => ?_) (fun hx => ?_)
  ·
    refine CW.seq ?_
    refine CW.region (ef := [1]) (bk := [1]) ?_
    refine RL.buildA (List.replicate 32 (U8 0#8)) Try.zeroValue61 Try.runUnderlying61 Try.sizeOf5 rfl rfl rfl rfl rfl ?_
    refine RL.storeW Try.sizeOf61 rfl rfl rfl rfl rfl rfl rfl (by first | rfl | exact ones_map one8 _ | exact ones_map (fun _ => rfl) _) (by repeat (first | exact Upd.here | apply Upd.there)) (by first | rfl | assumption | (simp only [List.length_map]; assumption) | (simp only [List.length_map, List.length_replicate, nextD_length, zeros32]; done) | (simp; done)) (by first | rfl | assumption | (simp only [List.length_map]; assumption) | (simp only [List.length_map, List.length_replicate, nextD_length, zeros32]; done) | (simp; done)) ?_
    refine RL.assign rfl rfl rfl rfl ?_
    refine RL.nil ?_
    refine NQ.seq ?_
    refine CW.only (.cons (k := 2) rfl (.cons (k := 3) rfl (.cons (k := 4) rfl (.cons (k := 5) rfl .nil)))) ?_
    refine CW.ret ?_
    refine RQ.seq ?_
    -- STOP: ret; end
    have hx : x.ok = false := by simpa using hx
    rw [next_no hx]
    exact RQ.post (resWT rfl rfl rfl Try.isAgg61 Try.sizeOf61 (by repeat (first | exact List.Mem.head _ | apply List.Mem.tail)) rfl) (Split.none _) ⟨rfl, rfl, rfl⟩
  ·
    have hx : x.ok = true := by simpa using hx
    obtain ⟨h1, h2, h3, h4⟩ := Ent.ok_iff.1 hx
    rw [next_yes hx]
    refine CW.skip ?_
    refine NQ.seq ?_
    refine CW.only (.cons (k := 2) rfl (.cons (k := 3) rfl (.cons (k := 4) rfl .nil))) ?_
    refine CW.seq ?_
    refine CW.regionD (Sq.of [0, 1, 2, 4, 5, 7, 8, 10, 11, 3, 6, 9, 12, 13, 14, 15, 16]) [3, 6, 9, 12, 13, 14, 15] [15] [0, 1, 2, 4, 5, 7, 8, 10, 11, 16] mixed (by kernel_rfl) ?_
    refine RL.sliceAll Try.runUnderlying61 Try.sizeOf5 (by decide) rfl rfl rfl rfl ?_
    refine RL.fieldAddr fa_57_0 rfl rfl rfl rfl ?_
    refine RL.loadT Try.isAgg3 rfl rfl rfl rfl (by first | assumption | (apply RdI.rd; assumption) | (apply Rd.get; (solve | (repeat (first | exact List.Mem.head _ | apply List.Mem.tail))); assumption) | (apply Rd.getS; (solve | (repeat (first | exact List.Mem.head _ | apply List.Mem.tail))); assumption) | (apply Rd.getO; (solve | (repeat (first | exact List.Mem.head _ | apply List.Mem.tail))); assumption) | (apply Rd.getI; (solve | (repeat (first | exact List.Mem.head _ | apply List.Mem.tail))); assumption) | (apply Rd.cel; (solve | (repeat (first | exact List.Mem.head _ | apply List.Mem.tail))); exact rfl) | (apply Rd.celI; (solve | (repeat (first | exact List.Mem.head _ | apply List.Mem.tail))); exact rfl)) ?_
    refine RL.fieldAddr fa_57_1 rfl rfl rfl rfl ?_
    refine RL.loadT Try.isAgg3 rfl rfl rfl rfl (by first | assumption | (apply RdI.rd; assumption) | (apply Rd.get; (solve | (repeat (first | exact List.Mem.head _ | apply List.Mem.tail))); assumption) | (apply Rd.getS; (solve | (repeat (first | exact List.Mem.head _ | apply List.Mem.tail))); assumption) | (apply Rd.getO; (solve | (repeat (first | exact List.Mem.head _ | apply List.Mem.tail))); assumption) | (apply Rd.getI; (solve | (repeat (first | exact List.Mem.head _ | apply List.Mem.tail))); assumption) | (apply Rd.cel; (solve | (repeat (first | exact List.Mem.head _ | apply List.Mem.tail))); exact rfl) | (apply Rd.celI; (solve | (repeat (first | exact List.Mem.head _ | apply List.Mem.tail))); exact rfl)) ?_
    refine RL.fieldAddr fa_57_2 rfl rfl rfl rfl ?_
    refine RL.loadT Try.isAgg3 rfl rfl rfl rfl (by first | assumption | (apply RdI.rd; assumption) | (apply Rd.get; (solve | (repeat (first | exact List.Mem.head _ | apply List.Mem.tail))); assumption) | (apply Rd.getS; (solve | (repeat (first | exact List.Mem.head _ | apply List.Mem.tail))); assumption) | (apply Rd.getO; (solve | (repeat (first | exact List.Mem.head _ | apply List.Mem.tail))); assumption) | (apply Rd.getI; (solve | (repeat (first | exact List.Mem.head _ | apply List.Mem.tail))); assumption) | (apply Rd.cel; (solve | (repeat (first | exact List.Mem.head _ | apply List.Mem.tail))); exact rfl) | (apply Rd.celI; (solve | (repeat (first | exact List.Mem.head _ | apply List.Mem.tail))); exact rfl)) ?_
    refine RL.fieldAddr fa_57_3 rfl rfl rfl rfl ?_
    refine RL.loadT Try.isAgg3 rfl rfl rfl rfl (by first | assumption | (apply RdI.rd; assumption) | (apply Rd.get; (solve | (repeat (first | exact List.Mem.head _ | apply List.Mem.tail))); assumption) | (apply Rd.getS; (solve | (repeat (first | exact List.Mem.head _ | apply List.Mem.tail))); assumption) | (apply Rd.getO; (solve | (repeat (first | exact List.Mem.head _ | apply List.Mem.tail))); assumption) | (apply Rd.getI; (solve | (repeat (first | exact List.Mem.head _ | apply List.Mem.tail))); assumption) | (apply Rd.cel; (solve | (repeat (first | exact List.Mem.head _ | apply List.Mem.tail))); exact rfl) | (apply Rd.celI; (solve | (repeat (first | exact List.Mem.head _ | apply List.Mem.tail))); exact rfl)) ?_
    refine RL.call (num_i x.t h1.1 8 (by decide) (by decide)) Try.call96 rfl rfl rfl rfl rfl (by repeat (first | exact Pick.nil | apply Pick.take | apply Pick.leave)) (by repeat (first | exact Lend.nil | (refine Lend.inI ?_ ?_; (solve | (repeat (first | exact List.Mem.head _ | apply List.Mem.tail)))) | (refine Lend.inH ?_ ?_; (solve | (repeat (first | exact List.Mem.head _ | apply List.Mem.tail)))))) (.inl rfl) ?_
    -- STOP: called; op 6: d=16 ["call", ["f", 96], [["t", 15], ["c", ["int", "Go.IntKind.i64", 2]]], [3, 3]] guard=None (trace.go:58)
    rintro _ _ _ ⟨n1, rfl, rfl, rfl⟩
    refine RL.call (num_i x.k h2.1 2 (by decide) (by decide)) Try.call96 rfl rfl rfl rfl rfl (by repeat (first | exact Pick.nil | apply Pick.take | apply Pick.leave)) (by repeat (first | exact Lend.nil | (refine Lend.inI ?_ ?_; (solve | (repeat (first | exact List.Mem.head _ | apply List.Mem.tail)))) | (refine Lend.inH ?_ ?_; (solve | (repeat (first | exact List.Mem.head _ | apply List.Mem.tail)))))) (.inl rfl) ?_
    -- STOP: called; op 9: d=19 ["call", ["f", 96], [["t", 18], ["c", ["int", "Go.IntKind.i64", 2]]], [3, 3]] guard=None (trace.go:58)
    rintro _ _ _ ⟨n2, rfl, rfl, rfl⟩
    refine RL.call (num_i x.s h3.1 2 (by decide) (by decide)) Try.call96 rfl rfl rfl rfl rfl (by repeat (first | exact Pick.nil | apply Pick.take | apply Pick.leave)) (by repeat (first | exact Lend.nil | (refine Lend.inI ?_ ?_; (solve | (repeat (first | exact List.Mem.head _ | apply List.Mem.tail)))) | (refine Lend.inH ?_ ?_; (solve | (repeat (first | exact List.Mem.head _ | apply List.Mem.tail)))))) (.inl rfl) ?_
    -- STOP: called; op 12: d=22 ["call", ["f", 96], [["t", 21], ["c", ["int", "Go.IntKind.i64", 2]]], [3, 3]] guard=None (trace.go:58)
    rintro _ _ _ ⟨n3, rfl, rfl, rfl⟩
    refine RL.call (num_i x.e h4.1 2 (by decide) (by decide)) Try.call96 rfl rfl rfl rfl rfl (by repeat (first | exact Pick.nil | apply Pick.take | apply Pick.leave)) (by repeat (first | exact Lend.nil | (refine Lend.inI ?_ ?_; (solve | (repeat (first | exact List.Mem.head _ | apply List.Mem.tail)))) | (refine Lend.inH ?_ ?_; (solve | (repeat (first | exact List.Mem.head _ | apply List.Mem.tail)))))) (.inl rfl) ?_
    -- STOP: called; op 13: d=23 ["buildSlice", 265, 5, [[0, ["t", 10]], [1, ["t", 13]], [2, ["t", 16]], [3, ["t", 19]], [4, ["t", 22]]]] guard=None (trace.go:58)
    rintro _ _ _ ⟨n4, rfl, rfl, rfl⟩
    refine RL.buildSlice [_, _, _, _, _] Try.runUnderlying265 Try.sizeOf34 Try.zeroValue34 rfl rfl (by decide) (by decide) rfl rfl rfl rfl rfl rfl ?_
    intro b4
    refine RL.callv (of_n (some ⟨b4, 0, none⟩) 5 5 [⟨some ⟨b1, 0, none⟩, 32, h⟩, ⟨some ⟨n1, 0, none⟩, 8, beN 8 x.t.toNat⟩, ⟨some ⟨n2, 0, none⟩, 2, beN 2 x.k.toNat⟩, ⟨some ⟨n3, 0, none⟩, 2, beN 2 x.s.toNat⟩, ⟨some ⟨n4, 0, none⟩, 2, beN 2 x.e.toNat⟩] (h ++ x.be) rfl (by simp [joined, Ent.be]) (by decide) (by rw [List.length_append, hl, Ent.be_length]; decide) [.slice (some ⟨b1, 0, none⟩) 32 32, .slice (some ⟨n1, 0, none⟩) 8 8, .slice (some ⟨n2, 0, none⟩) 2 2, .slice (some ⟨n3, 0, none⟩) 2 2, .slice (some ⟨n4, 0, none⟩) 2 2] (by simp only [List.map_cons, List.map_nil, Part.v, hl, beN_length])) Try.call95 rfl rfl rfl rfl (Lend.all (by repeat (first | exact List.Mem.head _ | apply List.Mem.tail)) rfl (Lend.celI (by repeat (first | exact List.Mem.head _ | apply List.Mem.tail)) (lenB _) (Lend.all (by repeat (first | exact List.Mem.head _ | apply List.Mem.tail)) (lenB _) (Lend.all (by repeat (first | exact List.Mem.head _ | apply List.Mem.tail)) (lenB _) (Lend.all (by repeat (first | exact List.Mem.head _ | apply List.Mem.tail)) (lenB _) (Lend.all (by repeat (first | exact List.Mem.head _ | apply List.Mem.tail)) (lenB _) .nil)))))) ?_
    refine RL.storeW Try.sizeOf61 rfl rfl rfl rfl rfl rfl rfl (by first | rfl | exact ones_map one8 _ | exact ones_map (fun _ => rfl) _) (by repeat (first | exact Upd.here | apply Upd.there)) (by first | rfl | assumption | (simp only [List.length_map]; assumption) | (simp only [List.length_map, List.length_replicate, nextD_length, zeros32]; done) | (simp; done)) (by first | rfl | assumption | (simp only [List.length_map]; assumption) | (simp only [List.length_map, List.length_replicate, nextD_length, zeros32]; done) | (simp; done)) ?_
    refine RL.assign rfl rfl rfl rfl ?_
    refine RL.nil ?_
    refine NQ.seq ?_
    refine CW.only (.cons (k := 4) rfl (.cons (k := 5) rfl .nil)) ?_
    refine CW.ret ?_
    -- STOP: ret; end
    exact RQ.post (resWT rfl rfl rfl Try.isAgg61 Try.sizeOf61 (by repeat (first | exact List.Mem.head _ | apply List.Mem.tail)) (by rw [List.length_map, nextD_length])) (Split.none _) ⟨rfl, rfl, rfl⟩

theorem two_any (n : Int) : Spc Try.prog 91 #[.int .i64 n] [] [] (Is (.bool (twoB n))) := by
  refine Spc.enter Try.func91 rfl rfl rfl (fun w0 hw0 => ?_)
  refine CW.seq ?_
  refine CW.region (ef := []) (bk := []) ?_
  refine RL.assign rfl rfl rfl rfl ?_
  refine RL.nil ?_
  refine NQ.seq ?_
  refine CW.seq ?_
  refine CW.region (ef := []) (bk := []) ?_
  refine RL.move rfl rfl rfl rfl ?_
  refine RL.bin rfl rfl rfl rfl rfl rfl ?_
  refine RL.move rfl rfl rfl rfl ?_
  apply RL.andB (d := 5) (dp := 8) (l' := (Sq.of [6])) rfl (.cons (k := 2) rfl .nil)
  ·
    intro hb3 K3
    refine RL.move rfl rfl rfl rfl ?_
    refine RL.bin rfl rfl rfl rfl rfl rfl ?_
    refine RL.pickT rfl rfl rfl rfl rfl ?_
    exact K3 _ (.cons rfl (.cons (k := 2) rfl .nil))
  ·
    intro hb3 K3
    refine RL.skip rfl rfl rfl rfl ?_
    refine RL.skip rfl rfl rfl rfl ?_
    refine RL.pickF rfl rfl rfl rfl rfl ?_
    exact K3 _ (.cons rfl (.cons (k := 2) rfl .nil))
  refine RL.assign rfl rfl rfl rfl ?_
  refine RL.nil ?_
  refine NQ.seq ?_
  refine CW.ret ?_
  -- STOP: ret; end
  exact RQ.post (res1 rfl rfl) (Split.none _) ⟨rfl, rfl, rfl⟩
theorem rnum36 (a : Int) (h0 : 0 ≤ a) (hb : a ≤ 1099511627776) (n : Nat) (hn : n ≤ 8) : Spc Try.prog 92 #[.int .u64 (IntKind.u64.wrap a), .int .i64 (n : Int)] [] [] (OwnN n (beN n a.toNat)) := by
  have e : IntKind.u64.wrap a = (a.toNat : Int) := by
    rw [show IntKind.u64.wrap a = a by simp [IntKind.wrap, IntKind.bits, IntKind.signed]; omega, Int.toNat_of_nonneg h0]
  rw [e]
  exact OwnB.n (beN_length _ _) (num36 a.toNat n (by omega) hn)
attribute [local irreducible] beN
theorem rnext_any (h : List B8) (hl : h.length = 32) (x : Ent) : Spc Try.prog 40 #[.agg (bytes h).toArray, .agg x.cells.toArray] [] [] (Is (nextV h x)) := by
  refine Spc.enter Try.func40 rfl rfl rfl (fun w0 hw0 => ?_)
  refine CW.seq ?_
  refine CW.region (ef := [0, 1, 2]) (bk := []) ?_
  refine RL.box rfl rfl rfl rfl rfl rfl ?_
  intro b1
  refine RL.box rfl rfl rfl rfl rfl rfl ?_
  intro b2
  refine RL.alloc (cs := List.replicate 32 (U8 0#8)) Try.zeroValue61 rfl rfl rfl rfl rfl ?_
  intro b3
  refine RL.assign rfl rfl rfl rfl ?_
  refine RL.nil ?_
  refine NQ.seq ?_
  refine CW.seq ?_
  refine CW.seq ?_
  -- STOP: region; todo top: ["code", ["region", 1, [{"d": 7, "op": ["fieldAddr", 58, ["t", 3], 0], "ty": 0, "pos": "ref.go:39", "after": [], "guard": null}, {"d": 8, "op": ["load", 3, ["t", 7]], "ty": 3, "pos": "ref.go:39", "aft
  refine CW.freezeP (A := [_, _]) (B := [_]) (.leave (.take (.take .nil))) rfl ?_
  simp only [List.cons_append, List.nil_append]
  refine CW.region (ef := []) (bk := []) ?_
  refine RL.fieldAddr fa_58_0 rfl rfl rfl rfl ?_
  refine RL.load Try.isAgg3 rfl rfl rfl rfl (by first | assumption | (apply RdI.rd; assumption) | (apply Rd.get; (solve | (repeat (first | exact List.Mem.head _ | apply List.Mem.tail))); assumption) | (apply Rd.getS; (solve | (repeat (first | exact List.Mem.head _ | apply List.Mem.tail))); assumption) | (apply Rd.getO; (solve | (repeat (first | exact List.Mem.head _ | apply List.Mem.tail))); assumption) | (apply Rd.getI; (solve | (repeat (first | exact List.Mem.head _ | apply List.Mem.tail))); assumption) | (apply Rd.cel; (solve | (repeat (first | exact List.Mem.head _ | apply List.Mem.tail))); exact rfl) | (apply Rd.celI; (solve | (repeat (first | exact List.Mem.head _ | apply List.Mem.tail))); exact rfl)) ?_
  refine RL.bin rfl rfl rfl rfl rfl rfl ?_
  refine RL.move rfl rfl rfl rfl ?_
  apply RL.orB (d := 10) (dp := 14) (l' := (Sq.of [8, 9, 10, 11, 12, 13, 14, 15, 16, 17, 18, 19, 20, 21, 22, 23, 24, 25])) rfl (.cons (k := 2) rfl (.cons (k := 3) rfl (.cons (k := 4) rfl (.cons (k := 5) rfl .nil))))
  ·
    intro hb4 K4
    refine RL.fieldAddr fa_58_0 rfl rfl rfl rfl ?_
    refine RL.load Try.isAgg3 rfl rfl rfl rfl (by first | assumption | (apply RdI.rd; assumption) | (apply Rd.get; (solve | (repeat (first | exact List.Mem.head _ | apply List.Mem.tail))); assumption) | (apply Rd.getS; (solve | (repeat (first | exact List.Mem.head _ | apply List.Mem.tail))); assumption) | (apply Rd.getO; (solve | (repeat (first | exact List.Mem.head _ | apply List.Mem.tail))); assumption) | (apply Rd.getI; (solve | (repeat (first | exact List.Mem.head _ | apply List.Mem.tail))); assumption) | (apply Rd.cel; (solve | (repeat (first | exact List.Mem.head _ | apply List.Mem.tail))); exact rfl) | (apply Rd.celI; (solve | (repeat (first | exact List.Mem.head _ | apply List.Mem.tail))); exact rfl)) ?_
    refine RL.bin rfl rfl rfl rfl rfl rfl ?_
    refine RL.pickF rfl rfl rfl rfl rfl ?_
    exact K4 _ (.cons rfl (.cons (k := 2) rfl (.cons (k := 3) rfl (.cons (k := 4) rfl (.cons (k := 5) rfl .nil)))))
  ·
    intro hb4 K4
    refine RL.skip rfl rfl rfl rfl ?_
    refine RL.skip rfl rfl rfl rfl ?_
    refine RL.skip rfl rfl rfl rfl ?_
    refine RL.pickT rfl rfl rfl rfl rfl ?_
    exact K4 _ (.cons rfl (.cons (k := 2) rfl (.cons (k := 3) rfl (.cons (k := 4) rfl (.cons (k := 5) rfl .nil)))))
  refine RL.move rfl rfl rfl rfl ?_
  apply RL.orB (d := 15) (dp := 20) (l' := (Sq.of [14, 15, 16, 17, 18, 19, 20, 21, 22, 23, 24, 25])) rfl (.cons (k := 2) rfl (.cons (k := 3) rfl (.cons (k := 4) rfl (.cons (k := 5) rfl .nil))))
  ·
    intro hb9 K9
    refine RL.fieldAddr fa_58_1 rfl rfl rfl rfl ?_
    refine RL.load Try.isAgg3 rfl rfl rfl rfl (by first | assumption | (apply RdI.rd; assumption) | (apply Rd.get; (solve | (repeat (first | exact List.Mem.head _ | apply List.Mem.tail))); assumption) | (apply Rd.getS; (solve | (repeat (first | exact List.Mem.head _ | apply List.Mem.tail))); assumption) | (apply Rd.getO; (solve | (repeat (first | exact List.Mem.head _ | apply List.Mem.tail))); assumption) | (apply Rd.getI; (solve | (repeat (first | exact List.Mem.head _ | apply List.Mem.tail))); assumption) | (apply Rd.cel; (solve | (repeat (first | exact List.Mem.head _ | apply List.Mem.tail))); exact rfl) | (apply Rd.celI; (solve | (repeat (first | exact List.Mem.head _ | apply List.Mem.tail))); exact rfl)) ?_
    refine RL.callv (two_any x.k) Try.call91 rfl rfl rfl rfl (by repeat (first | exact Lend.nil | (refine Lend.inI ?_ ?_; (solve | (repeat (first | exact List.Mem.head _ | apply List.Mem.tail)))) | (refine Lend.inH ?_ ?_; (solve | (repeat (first | exact List.Mem.head _ | apply List.Mem.tail)))))) ?_
    refine RL.not rfl rfl rfl rfl ?_
    refine RL.pickF rfl rfl rfl rfl rfl ?_
    exact K9 _ (.cons rfl (.cons (k := 2) rfl (.cons (k := 3) rfl (.cons (k := 4) rfl (.cons (k := 5) rfl .nil)))))
  ·
    intro hb9 K9
    refine RL.skip rfl rfl rfl rfl ?_
    refine RL.skip rfl rfl rfl rfl ?_
    refine RL.skip rfl rfl rfl rfl ?_
    refine RL.skip rfl rfl rfl rfl ?_
    refine RL.pickT rfl rfl rfl rfl rfl ?_
    exact K9 _ (.cons rfl (.cons (k := 2) rfl (.cons (k := 3) rfl (.cons (k := 4) rfl (.cons (k := 5) rfl .nil)))))
  refine RL.move rfl rfl rfl rfl ?_
  apply RL.orB (d := 21) (dp := 26) (l' := (Sq.of [20, 21, 22, 23, 24, 25])) rfl (.cons (k := 2) rfl (.cons (k := 3) rfl (.cons (k := 4) rfl (.cons (k := 5) rfl .nil))))
  ·
    intro hb15 K15
    refine RL.fieldAddr fa_58_2 rfl rfl rfl rfl ?_
    refine RL.load Try.isAgg3 rfl rfl rfl rfl (by first | assumption | (apply RdI.rd; assumption) | (apply Rd.get; (solve | (repeat (first | exact List.Mem.head _ | apply List.Mem.tail))); assumption) | (apply Rd.getS; (solve | (repeat (first | exact List.Mem.head _ | apply List.Mem.tail))); assumption) | (apply Rd.getO; (solve | (repeat (first | exact List.Mem.head _ | apply List.Mem.tail))); assumption) | (apply Rd.getI; (solve | (repeat (first | exact List.Mem.head _ | apply List.Mem.tail))); assumption) | (apply Rd.cel; (solve | (repeat (first | exact List.Mem.head _ | apply List.Mem.tail))); exact rfl) | (apply Rd.celI; (solve | (repeat (first | exact List.Mem.head _ | apply List.Mem.tail))); exact rfl)) ?_
    refine RL.callv (two_any x.s) Try.call91 rfl rfl rfl rfl (by repeat (first | exact Lend.nil | (refine Lend.inI ?_ ?_; (solve | (repeat (first | exact List.Mem.head _ | apply List.Mem.tail)))) | (refine Lend.inH ?_ ?_; (solve | (repeat (first | exact List.Mem.head _ | apply List.Mem.tail)))))) ?_
    refine RL.not rfl rfl rfl rfl ?_
    refine RL.pickF rfl rfl rfl rfl rfl ?_
    exact K15 _ (.cons rfl (.cons (k := 2) rfl (.cons (k := 3) rfl (.cons (k := 4) rfl (.cons (k := 5) rfl .nil)))))
  ·
    intro hb15 K15
    refine RL.skip rfl rfl rfl rfl ?_
    refine RL.skip rfl rfl rfl rfl ?_
    refine RL.skip rfl rfl rfl rfl ?_
    refine RL.skip rfl rfl rfl rfl ?_
    refine RL.pickT rfl rfl rfl rfl rfl ?_
    exact K15 _ (.cons rfl (.cons (k := 2) rfl (.cons (k := 3) rfl (.cons (k := 4) rfl (.cons (k := 5) rfl .nil)))))
  refine RL.move rfl rfl rfl rfl ?_
  apply RL.orB (d := 27) (dp := 32) (l' := (Sq.of [])) rfl (.cons (k := 2) rfl (.cons (k := 3) rfl (.cons (k := 4) rfl (.cons (k := 5) rfl .nil))))
  ·
    intro hb21 K21
    refine RL.fieldAddr fa_58_3 rfl rfl rfl rfl ?_
    refine RL.load Try.isAgg3 rfl rfl rfl rfl (by first | assumption | (apply RdI.rd; assumption) | (apply Rd.get; (solve | (repeat (first | exact List.Mem.head _ | apply List.Mem.tail))); assumption) | (apply Rd.getS; (solve | (repeat (first | exact List.Mem.head _ | apply List.Mem.tail))); assumption) | (apply Rd.getO; (solve | (repeat (first | exact List.Mem.head _ | apply List.Mem.tail))); assumption) | (apply Rd.getI; (solve | (repeat (first | exact List.Mem.head _ | apply List.Mem.tail))); assumption) | (apply Rd.cel; (solve | (repeat (first | exact List.Mem.head _ | apply List.Mem.tail))); exact rfl) | (apply Rd.celI; (solve | (repeat (first | exact List.Mem.head _ | apply List.Mem.tail))); exact rfl)) ?_
    refine RL.callv (two_any x.e) Try.call91 rfl rfl rfl rfl (by repeat (first | exact Lend.nil | (refine Lend.inI ?_ ?_; (solve | (repeat (first | exact List.Mem.head _ | apply List.Mem.tail)))) | (refine Lend.inH ?_ ?_; (solve | (repeat (first | exact List.Mem.head _ | apply List.Mem.tail)))))) ?_
    refine RL.not rfl rfl rfl rfl ?_
    refine RL.pickF rfl rfl rfl rfl rfl ?_
    exact K21 _ (.cons rfl (.cons (k := 2) rfl (.cons (k := 3) rfl (.cons (k := 4) rfl (.cons (k := 5) rfl .nil)))))
  ·
    intro hb21 K21
    refine RL.skip rfl rfl rfl rfl ?_
    refine RL.skip rfl rfl rfl rfl ?_
    refine RL.skip rfl rfl rfl rfl ?_
    refine RL.skip rfl rfl rfl rfl ?_
    refine RL.pickT rfl rfl rfl rfl rfl ?_
    exact K21 _ (.cons rfl (.cons (k := 2) rfl (.cons (k := 3) rfl (.cons (k := 4) rfl (.cons (k := 5) rfl .nil)))))
  refine RL.nil ?_
  refine NQ.seq ?_
  -- STOP: if; todo top: ["code", ["cond", ["t", 32], ["seq", ["region", 2, [{"d": 33, "op": ["build", 61, []], "ty": 61, "pos": "ref.go:40", "after": [], "guard": null}, {"d": null, "op": ["store", 61, ["t", 4], ["t", 33]], 
  refine CW.cond rfl (fun hx => ?_) (fun hx => ?_)
  ·
    refine CW.seq ?_
    refine CW.region (ef := [1]) (bk := [1]) ?_
    refine RL.buildA (List.replicate 32 (U8 0#8)) Try.zeroValue61 Try.runUnderlying61 Try.sizeOf5 rfl rfl rfl rfl rfl ?_
    refine RL.storeW Try.sizeOf61 rfl rfl rfl rfl rfl rfl rfl (by first | rfl | exact ones_map one8 _ | exact ones_map (fun _ => rfl) _) (by repeat (first | exact Upd.here | apply Upd.there)) (by first | rfl | assumption | (simp only [List.length_map]; assumption) | (simp only [List.length_map, List.length_replicate, nextD_length, zeros32]; done) | (simp; done)) (by first | rfl | assumption | (simp only [List.length_map]; assumption) | (simp only [List.length_map, List.length_replicate, nextD_length, zeros32]; done) | (simp; done)) ?_
    refine RL.assign rfl rfl rfl rfl ?_
    refine RL.nil ?_
    refine NQ.seq ?_
    refine CW.ret ?_
    refine RQ.seq ?_
    -- STOP: ret; end
    have hx : x.ok = false := by
      cases he : x.ok with
      | false => rfl
      | true =>
        obtain ⟨h1, h2, h3, h4⟩ := Ent.ok_iff.1 he
        simp [twoB] at hx; omega
    rw [next_no hx]
    exact RQ.post (resWT rfl rfl rfl Try.isAgg61 Try.sizeOf61 (by repeat (first | exact List.Mem.head _ | apply List.Mem.tail)) rfl) (Split.none _) ⟨rfl, rfl, rfl⟩
  ·
    have hx : x.ok = true := by
      rw [Ent.ok_iff]
      simp [twoB] at hx; omega
    obtain ⟨h1, h2, h3, h4⟩ := Ent.ok_iff.1 hx
    rw [next_yes hx]
    refine CW.skip ?_
    refine NQ.seq ?_
    refine CW.seq ?_
    refine CW.region (ef := [0, 2]) (bk := [2]) ?_
    refine RL.buildOwn [] Try.runUnderlying34 Try.sizeOf5 Try.zeroValue5 rfl rfl (by decide) (by decide) rfl (by decide) rfl rfl rfl rfl rfl rfl ?_
    intro b4
    refine RL.sliceAll Try.runUnderlying61 Try.sizeOf5 (by decide) rfl rfl rfl rfl ?_
    refine RL.appendA el_34 rfl rfl rfl rfl rfl rfl rfl (by first | exact ⟨(.take (Pick.none _)), rfl⟩ | exact ⟨(.leave (.take (Pick.none _))), rfl⟩ | exact ⟨(.leave (.leave (.take (Pick.none _)))), rfl⟩ | exact ⟨(.leave (.leave (.leave (.take (Pick.none _))))), rfl⟩ | exact ⟨(.leave (.leave (.leave (.leave (.take (Pick.none _)))))), rfl⟩ | exact ⟨(.leave (.leave (.leave (.leave (.leave (.take (Pick.none _))))))), rfl⟩ | exact ⟨(.leave (.leave (.leave (.leave (.leave (.leave (.take (Pick.none _)))))))), rfl⟩ | exact ⟨(.leave (.leave (.leave (.leave (.leave (.leave (.leave (.take (Pick.none _))))))))), rfl⟩ | exact ⟨(.leave (.leave (.leave (.leave (.leave (.leave (.leave (.leave (.take (Pick.none _)))))))))), rfl⟩ | exact ⟨(.leave (.leave (.leave (.leave (.leave (.leave (.leave (.leave (.leave (.take (Pick.none _))))))))))), rfl⟩) (by first | (exact Src.cel (by (solve | (repeat (first | exact List.Mem.head _ | apply List.Mem.tail)))) (by first | rfl | assumption | (simp only [List.length_map]; assumption) | (simp only [List.length_map, List.length_replicate, nextD_length, zeros32]; done) | (simp; done))) | (exact Src.ownS (by (solve | (repeat (first | exact List.Mem.head _ | apply List.Mem.tail))))) | (exact Src.own (by (solve | (repeat (first | exact List.Mem.head _ | apply List.Mem.tail))))) | (exact Src.sls (by (solve | (repeat (first | exact List.Mem.head _ | apply List.Mem.tail))))) | (exact Src.celI (by (solve | (repeat (first | exact List.Mem.head _ | apply List.Mem.tail)))) (by first | rfl | assumption | (simp only [List.length_map]; assumption) | (simp only [List.length_map, List.length_replicate, nextD_length, zeros32]; done) | (simp; done)))) (by first | exact one_map one8 _ | exact ones_spec rfl | exact one_map (fun _ => rfl) _ | (intro u hu; simp at hu; simp [hu, Value.oneCell'])) (by first | omega | (simp only [maxLen]; omega)) (by first | omega | (simp only [maxLen]; omega)) ?_
    intro ob1 cap1 ho1
    refine RL.assign rfl rfl rfl rfl ?_
    refine RL.nil ?_
    refine NQ.seq ?_
    refine CW.only (.cons (k := 3) rfl (.cons (k := 4) rfl (.cons (k := 6) rfl .nil))) ?_
    refine CW.seq ?_
    refine CW.regionD (Sq.of [0, 1, 2, 3, 6, 7, 8, 4, 5, 9, 10, 11]) [4, 5, 9, 10] [5, 10] [0, 1, 2, 3, 6, 7, 8, 11] mixed (by kernel_rfl) ?_
    refine RL.move rfl rfl rfl rfl ?_
    refine RL.fieldAddr fa_58_0 rfl rfl rfl rfl ?_
    refine RL.loadT Try.isAgg3 rfl rfl rfl rfl (by first | assumption | (apply RdI.rd; assumption) | (apply Rd.get; (solve | (repeat (first | exact List.Mem.head _ | apply List.Mem.tail))); assumption) | (apply Rd.getS; (solve | (repeat (first | exact List.Mem.head _ | apply List.Mem.tail))); assumption) | (apply Rd.getO; (solve | (repeat (first | exact List.Mem.head _ | apply List.Mem.tail))); assumption) | (apply Rd.getI; (solve | (repeat (first | exact List.Mem.head _ | apply List.Mem.tail))); assumption) | (apply Rd.cel; (solve | (repeat (first | exact List.Mem.head _ | apply List.Mem.tail))); exact rfl) | (apply Rd.celI; (solve | (repeat (first | exact List.Mem.head _ | apply List.Mem.tail))); exact rfl)) ?_
    refine RL.conv Try.runUnderlying3 Try.runUnderlying30 rfl rfl rfl rfl ?_
    refine RL.fieldAddr fa_58_1 rfl rfl rfl rfl ?_
    refine RL.loadT Try.isAgg3 rfl rfl rfl rfl (by first | assumption | (apply RdI.rd; assumption) | (apply Rd.get; (solve | (repeat (first | exact List.Mem.head _ | apply List.Mem.tail))); assumption) | (apply Rd.getS; (solve | (repeat (first | exact List.Mem.head _ | apply List.Mem.tail))); assumption) | (apply Rd.getO; (solve | (repeat (first | exact List.Mem.head _ | apply List.Mem.tail))); assumption) | (apply Rd.getI; (solve | (repeat (first | exact List.Mem.head _ | apply List.Mem.tail))); assumption) | (apply Rd.cel; (solve | (repeat (first | exact List.Mem.head _ | apply List.Mem.tail))); exact rfl) | (apply Rd.celI; (solve | (repeat (first | exact List.Mem.head _ | apply List.Mem.tail))); exact rfl)) ?_
    refine RL.conv Try.runUnderlying3 Try.runUnderlying30 rfl rfl rfl rfl ?_
    refine RL.call (rnum36 x.t h1.1 h1.2 8 (by decide)) Try.call92 rfl rfl rfl rfl rfl (by repeat (first | exact Pick.nil | apply Pick.take | apply Pick.leave)) (by repeat (first | exact Lend.nil | (refine Lend.inI ?_ ?_; (solve | (repeat (first | exact List.Mem.head _ | apply List.Mem.tail)))) | (refine Lend.inH ?_ ?_; (solve | (repeat (first | exact List.Mem.head _ | apply List.Mem.tail)))))) (.inl rfl) ?_
    rintro _ _ _ ⟨ob2, cap2, rfl, rfl, rfl, ho2⟩
    refine RL.appendA el_34 rfl rfl rfl rfl rfl rfl rfl (by first | exact ⟨(.take (Pick.none _)), rfl⟩ | exact ⟨(.leave (.take (Pick.none _))), rfl⟩ | exact ⟨(.leave (.leave (.take (Pick.none _)))), rfl⟩ | exact ⟨(.leave (.leave (.leave (.take (Pick.none _))))), rfl⟩ | exact ⟨(.leave (.leave (.leave (.leave (.take (Pick.none _)))))), rfl⟩ | exact ⟨(.leave (.leave (.leave (.leave (.leave (.take (Pick.none _))))))), rfl⟩ | exact ⟨(.leave (.leave (.leave (.leave (.leave (.leave (.take (Pick.none _)))))))), rfl⟩ | exact ⟨(.leave (.leave (.leave (.leave (.leave (.leave (.leave (.take (Pick.none _))))))))), rfl⟩ | exact ⟨(.leave (.leave (.leave (.leave (.leave (.leave (.leave (.leave (.take (Pick.none _)))))))))), rfl⟩ | exact ⟨(.leave (.leave (.leave (.leave (.leave (.leave (.leave (.leave (.leave (.take (Pick.none _))))))))))), rfl⟩) (by first | (exact Src.cel (by (solve | (repeat (first | exact List.Mem.head _ | apply List.Mem.tail)))) (by first | rfl | assumption | (simp only [List.length_map]; assumption) | (simp only [List.length_map, List.length_replicate, nextD_length, zeros32]; done) | (simp; done))) | (exact Src.ownS (by (solve | (repeat (first | exact List.Mem.head _ | apply List.Mem.tail))))) | (exact Src.own (by (solve | (repeat (first | exact List.Mem.head _ | apply List.Mem.tail))))) | (exact Src.sls (by (solve | (repeat (first | exact List.Mem.head _ | apply List.Mem.tail))))) | (exact Src.celI (by (solve | (repeat (first | exact List.Mem.head _ | apply List.Mem.tail)))) (by first | rfl | assumption | (simp only [List.length_map]; assumption) | (simp only [List.length_map, List.length_replicate, nextD_length, zeros32]; done) | (simp; done)))) (by first | exact one_map one8 _ | exact ones_spec rfl | exact one_map (fun _ => rfl) _ | (intro u hu; simp at hu; simp [hu, Value.oneCell'])) (by first | omega | (simp only [maxLen]; omega)) (by first | omega | (simp only [maxLen]; omega)) ?_
    intro ob3 cap3 ho3
    refine RL.call (rnum36 x.k h2.1 (by omega) 2 (by decide)) Try.call92 rfl rfl rfl rfl rfl (by repeat (first | exact Pick.nil | apply Pick.take | apply Pick.leave)) (by repeat (first | exact Lend.nil | (refine Lend.inI ?_ ?_; (solve | (repeat (first | exact List.Mem.head _ | apply List.Mem.tail)))) | (refine Lend.inH ?_ ?_; (solve | (repeat (first | exact List.Mem.head _ | apply List.Mem.tail)))))) (.inl rfl) ?_
    rintro _ _ _ ⟨ob4, cap4, rfl, rfl, rfl, ho4⟩
    refine RL.appendA el_34 rfl rfl rfl rfl rfl rfl rfl (by first | exact ⟨(.take (Pick.none _)), rfl⟩ | exact ⟨(.leave (.take (Pick.none _))), rfl⟩ | exact ⟨(.leave (.leave (.take (Pick.none _)))), rfl⟩ | exact ⟨(.leave (.leave (.leave (.take (Pick.none _))))), rfl⟩ | exact ⟨(.leave (.leave (.leave (.leave (.take (Pick.none _)))))), rfl⟩ | exact ⟨(.leave (.leave (.leave (.leave (.leave (.take (Pick.none _))))))), rfl⟩ | exact ⟨(.leave (.leave (.leave (.leave (.leave (.leave (.take (Pick.none _)))))))), rfl⟩ | exact ⟨(.leave (.leave (.leave (.leave (.leave (.leave (.leave (.take (Pick.none _))))))))), rfl⟩ | exact ⟨(.leave (.leave (.leave (.leave (.leave (.leave (.leave (.leave (.take (Pick.none _)))))))))), rfl⟩ | exact ⟨(.leave (.leave (.leave (.leave (.leave (.leave (.leave (.leave (.leave (.take (Pick.none _))))))))))), rfl⟩) (by first | (exact Src.cel (by (solve | (repeat (first | exact List.Mem.head _ | apply List.Mem.tail)))) (by first | rfl | assumption | (simp only [List.length_map]; assumption) | (simp only [List.length_map, List.length_replicate, nextD_length, zeros32]; done) | (simp; done))) | (exact Src.ownS (by (solve | (repeat (first | exact List.Mem.head _ | apply List.Mem.tail))))) | (exact Src.own (by (solve | (repeat (first | exact List.Mem.head _ | apply List.Mem.tail))))) | (exact Src.sls (by (solve | (repeat (first | exact List.Mem.head _ | apply List.Mem.tail))))) | (exact Src.celI (by (solve | (repeat (first | exact List.Mem.head _ | apply List.Mem.tail)))) (by first | rfl | assumption | (simp only [List.length_map]; assumption) | (simp only [List.length_map, List.length_replicate, nextD_length, zeros32]; done) | (simp; done)))) (by first | exact one_map one8 _ | exact ones_spec rfl | exact one_map (fun _ => rfl) _ | (intro u hu; simp at hu; simp [hu, Value.oneCell'])) (by first | omega | (simp only [maxLen]; omega)) (by first | omega | (simp only [maxLen]; omega)) ?_
    intro ob5 cap5 ho5
    refine RL.assign rfl rfl rfl rfl ?_
    refine RL.nil ?_
    refine NQ.seq ?_
    refine CW.only (.cons (k := 3) rfl (.cons (k := 4) rfl (.cons (k := 6) rfl .nil))) ?_
    refine CW.seq ?_
    refine CW.regionD (Sq.of [0, 1, 2, 3, 6, 7, 8, 4, 5, 9, 10, 11, 12, 13]) [4, 5, 9, 10, 12] [5, 10, 12] [0, 1, 2, 3, 6, 7, 8, 13] mixed (by kernel_rfl) ?_
    refine RL.move rfl rfl rfl rfl ?_
    refine RL.fieldAddr fa_58_2 rfl rfl rfl rfl ?_
    refine RL.loadT Try.isAgg3 rfl rfl rfl rfl (by first | assumption | (apply RdI.rd; assumption) | (apply Rd.get; (solve | (repeat (first | exact List.Mem.head _ | apply List.Mem.tail))); assumption) | (apply Rd.getS; (solve | (repeat (first | exact List.Mem.head _ | apply List.Mem.tail))); assumption) | (apply Rd.getO; (solve | (repeat (first | exact List.Mem.head _ | apply List.Mem.tail))); assumption) | (apply Rd.getI; (solve | (repeat (first | exact List.Mem.head _ | apply List.Mem.tail))); assumption) | (apply Rd.cel; (solve | (repeat (first | exact List.Mem.head _ | apply List.Mem.tail))); exact rfl) | (apply Rd.celI; (solve | (repeat (first | exact List.Mem.head _ | apply List.Mem.tail))); exact rfl)) ?_
    refine RL.conv Try.runUnderlying3 Try.runUnderlying30 rfl rfl rfl rfl ?_
    refine RL.fieldAddr fa_58_3 rfl rfl rfl rfl ?_
    refine RL.loadT Try.isAgg3 rfl rfl rfl rfl (by first | assumption | (apply RdI.rd; assumption) | (apply Rd.get; (solve | (repeat (first | exact List.Mem.head _ | apply List.Mem.tail))); assumption) | (apply Rd.getS; (solve | (repeat (first | exact List.Mem.head _ | apply List.Mem.tail))); assumption) | (apply Rd.getO; (solve | (repeat (first | exact List.Mem.head _ | apply List.Mem.tail))); assumption) | (apply Rd.getI; (solve | (repeat (first | exact List.Mem.head _ | apply List.Mem.tail))); assumption) | (apply Rd.cel; (solve | (repeat (first | exact List.Mem.head _ | apply List.Mem.tail))); exact rfl) | (apply Rd.celI; (solve | (repeat (first | exact List.Mem.head _ | apply List.Mem.tail))); exact rfl)) ?_
    refine RL.conv Try.runUnderlying3 Try.runUnderlying30 rfl rfl rfl rfl ?_
    refine RL.call (rnum36 x.s h3.1 (by omega) 2 (by decide)) Try.call92 rfl rfl rfl rfl rfl (by repeat (first | exact Pick.nil | apply Pick.take | apply Pick.leave)) (by repeat (first | exact Lend.nil | (refine Lend.inI ?_ ?_; (solve | (repeat (first | exact List.Mem.head _ | apply List.Mem.tail)))) | (refine Lend.inH ?_ ?_; (solve | (repeat (first | exact List.Mem.head _ | apply List.Mem.tail)))))) (.inl rfl) ?_
    rintro _ _ _ ⟨ob6, cap6, rfl, rfl, rfl, ho6⟩
    refine RL.appendA el_34 rfl rfl rfl rfl rfl rfl rfl (by first | exact ⟨(.take (Pick.none _)), rfl⟩ | exact ⟨(.leave (.take (Pick.none _))), rfl⟩ | exact ⟨(.leave (.leave (.take (Pick.none _)))), rfl⟩ | exact ⟨(.leave (.leave (.leave (.take (Pick.none _))))), rfl⟩ | exact ⟨(.leave (.leave (.leave (.leave (.take (Pick.none _)))))), rfl⟩ | exact ⟨(.leave (.leave (.leave (.leave (.leave (.take (Pick.none _))))))), rfl⟩ | exact ⟨(.leave (.leave (.leave (.leave (.leave (.leave (.take (Pick.none _)))))))), rfl⟩ | exact ⟨(.leave (.leave (.leave (.leave (.leave (.leave (.leave (.take (Pick.none _))))))))), rfl⟩ | exact ⟨(.leave (.leave (.leave (.leave (.leave (.leave (.leave (.leave (.take (Pick.none _)))))))))), rfl⟩ | exact ⟨(.leave (.leave (.leave (.leave (.leave (.leave (.leave (.leave (.leave (.take (Pick.none _))))))))))), rfl⟩) (by first | (exact Src.cel (by (solve | (repeat (first | exact List.Mem.head _ | apply List.Mem.tail)))) (by first | rfl | assumption | (simp only [List.length_map]; assumption) | (simp only [List.length_map, List.length_replicate, nextD_length, zeros32]; done) | (simp; done))) | (exact Src.ownS (by (solve | (repeat (first | exact List.Mem.head _ | apply List.Mem.tail))))) | (exact Src.own (by (solve | (repeat (first | exact List.Mem.head _ | apply List.Mem.tail))))) | (exact Src.sls (by (solve | (repeat (first | exact List.Mem.head _ | apply List.Mem.tail))))) | (exact Src.celI (by (solve | (repeat (first | exact List.Mem.head _ | apply List.Mem.tail)))) (by first | rfl | assumption | (simp only [List.length_map]; assumption) | (simp only [List.length_map, List.length_replicate, nextD_length, zeros32]; done) | (simp; done)))) (by first | exact one_map one8 _ | exact ones_spec rfl | exact one_map (fun _ => rfl) _ | (intro u hu; simp at hu; simp [hu, Value.oneCell'])) (by first | omega | (simp only [maxLen]; omega)) (by first | omega | (simp only [maxLen]; omega)) ?_
    intro ob7 cap7 ho7
    refine RL.call (rnum36 x.e h4.1 (by omega) 2 (by decide)) Try.call92 rfl rfl rfl rfl rfl (by repeat (first | exact Pick.nil | apply Pick.take | apply Pick.leave)) (by repeat (first | exact Lend.nil | (refine Lend.inI ?_ ?_; (solve | (repeat (first | exact List.Mem.head _ | apply List.Mem.tail)))) | (refine Lend.inH ?_ ?_; (solve | (repeat (first | exact List.Mem.head _ | apply List.Mem.tail)))))) (.inl rfl) ?_
    rintro _ _ _ ⟨ob8, cap8, rfl, rfl, rfl, ho8⟩
    refine RL.appendA el_34 rfl rfl rfl rfl rfl rfl rfl (by first | exact ⟨(.take (Pick.none _)), rfl⟩ | exact ⟨(.leave (.take (Pick.none _))), rfl⟩ | exact ⟨(.leave (.leave (.take (Pick.none _)))), rfl⟩ | exact ⟨(.leave (.leave (.leave (.take (Pick.none _))))), rfl⟩ | exact ⟨(.leave (.leave (.leave (.leave (.take (Pick.none _)))))), rfl⟩ | exact ⟨(.leave (.leave (.leave (.leave (.leave (.take (Pick.none _))))))), rfl⟩ | exact ⟨(.leave (.leave (.leave (.leave (.leave (.leave (.take (Pick.none _)))))))), rfl⟩ | exact ⟨(.leave (.leave (.leave (.leave (.leave (.leave (.leave (.take (Pick.none _))))))))), rfl⟩ | exact ⟨(.leave (.leave (.leave (.leave (.leave (.leave (.leave (.leave (.take (Pick.none _)))))))))), rfl⟩ | exact ⟨(.leave (.leave (.leave (.leave (.leave (.leave (.leave (.leave (.leave (.take (Pick.none _))))))))))), rfl⟩) (by first | (exact Src.cel (by (solve | (repeat (first | exact List.Mem.head _ | apply List.Mem.tail)))) (by first | rfl | assumption | (simp only [List.length_map]; assumption) | (simp only [List.length_map, List.length_replicate, nextD_length, zeros32]; done) | (simp; done))) | (exact Src.ownS (by (solve | (repeat (first | exact List.Mem.head _ | apply List.Mem.tail))))) | (exact Src.own (by (solve | (repeat (first | exact List.Mem.head _ | apply List.Mem.tail))))) | (exact Src.sls (by (solve | (repeat (first | exact List.Mem.head _ | apply List.Mem.tail))))) | (exact Src.celI (by (solve | (repeat (first | exact List.Mem.head _ | apply List.Mem.tail)))) (by first | rfl | assumption | (simp only [List.length_map]; assumption) | (simp only [List.length_map, List.length_replicate, nextD_length, zeros32]; done) | (simp; done)))) (by first | exact one_map one8 _ | exact ones_spec rfl | exact one_map (fun _ => rfl) _ | (intro u hu; simp at hu; simp [hu, Value.oneCell'])) (by first | omega | (simp only [maxLen]; omega)) (by first | omega | (simp only [maxLen]; omega)) ?_
    intro ob9 cap9 ho9
    refine RL.callv (rof_n (ob9.map fun b => ⟨b, 0, none⟩) 46 cap9 (h ++ x.be) (by rw [List.length_append, hl, Ent.be_length]) (by decide)) Try.call93 rfl rfl rfl rfl (Lend.ownE (nn := 0 + 32 + 8 + 2 + 2 + 2) (by repeat (first | exact List.Mem.head _ | apply List.Mem.tail)) rfl (by simp [Ent.be]) .nil) ?_
    refine RL.storeW Try.sizeOf61 rfl rfl rfl rfl rfl rfl rfl (by first | rfl | exact ones_map one8 _ | exact ones_map (fun _ => rfl) _) (by repeat (first | exact Upd.here | apply Upd.there)) (by first | rfl | assumption | (simp only [List.length_map]; assumption) | (simp only [List.length_map, List.length_replicate, nextD_length, zeros32]; done) | (simp; done)) (by first | rfl | assumption | (simp only [List.length_map]; assumption) | (simp only [List.length_map, List.length_replicate, nextD_length, zeros32]; done) | (simp; done)) ?_
    refine RL.assign rfl rfl rfl rfl ?_
    refine RL.nil ?_
    refine NQ.seq ?_
    refine CW.only (.cons (k := 4) rfl (.cons (k := 5) rfl .nil)) ?_
    refine CW.ret ?_
    -- STOP: ret; end
    exact RQ.post (resWT rfl rfl rfl Try.isAgg61 Try.sizeOf61 (by repeat (first | exact List.Mem.head _ | apply List.Mem.tail)) (by rw [List.length_map, nextD_length])) (Split.none _) ⟨rfl, rfl, rfl⟩
end Go.Proofs.Ytflpiaeffnoepaa
