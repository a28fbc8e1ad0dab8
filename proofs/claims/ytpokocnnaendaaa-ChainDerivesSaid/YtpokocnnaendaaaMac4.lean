import Derived.Test.YtpokocnnaendaaaDiff
import Derived.Test.YtpokocnnaendaaaMacEx
namespace Go.Proofs.Ytpokocnnaendaaa
open Go.PK

theorem rdiff_any (p q : Option Addr) (n m c1 c2 : Nat) (a b : List B8) (hn : a.length = n) (hm : b.length = m) (hb : n ≤ 1000000) (hb2 : m ≤ 1000000) :
    Spc Try.prog 47 #[.slice p n c1, .slice q m c2] [sls p 1 n (bytes a), sls q 1 m (bytes b)] [] (Is (.int .i64 (diffN a b : Int))) := by
  subst hn; subst hm
  refine Spc.enter Try.func47 rfl rfl rfl (fun w0 hw0 => ?_)
  refine CW.seq ?_
  refine CW.region (ef := []) (bk := []) ?_
  refine RL.assign rfl rfl rfl rfl ?_
  refine RL.nil ?_
  refine NQ.seq ?_
  refine CW.seq ?_
  refine CW.region (ef := []) (bk := []) ?_
  refine RL.assign rfl rfl rfl rfl ?_
  refine RL.nil ?_
  refine NQ.seq ?_
  refine CW.seq ?_
  refine CW.seq ?_
  refine CW.region (ef := []) (bk := []) ?_
  refine RL.assign rfl rfl rfl rfl ?_
  refine RL.nil ?_
  refine NQ.seq ?_
  refine CW.block ?_
  -- STOP: loop; todo top: ["code", ["loop", ["seq", ["seq", ["region", 3, [{"d": 7, "op": ["move", ["t", 6]], "ty": 3, "pos": "ref.go:44", "after": [], "guard": null}, {"d": 8, "op": ["move", ["t", 0]], "ty": 23, "pos": "ref.g
  refine CW.loop (γ := Nat) (fun i => i ≤ max a.length b.length) (fun i => [(0, .slice p a.length c1), (1, .slice q b.length c2), (5, .int .i64 (cnt a b i : Int)), (6, .int .i64 (i : Int))])
    (fun _ => [sls p 1 a.length (bytes a), sls q 1 b.length (bytes b)]) (fun _ => []) (fun i => max a.length b.length - i) 0 (Nat.zero_le _) (.cons rfl (.cons rfl (.cons rfl (.cons rfl .nil)))) (fun _ h => h) ?_
  intro i hi
  have hc := cnt_le a b i
  refine CW.fact (p := (p = none → a.length = 0) ∧ (q = none → b.length = 0)) (fun w hC => ⟨fun e => sls_nil (hC.s.i (sls p 1 a.length (bytes a)) (by repeat (first | exact List.Mem.head _ | apply List.Mem.tail))) e, fun e => sls_nil (hC.s.i (sls q 1 b.length (bytes b)) (by repeat (first | exact List.Mem.head _ | apply List.Mem.tail))) e⟩) (fun hpq => ?_)
  refine CW.seq ?_
  refine CW.seq ?_
  refine CW.region (ef := []) (bk := []) ?_
  refine RL.move rfl rfl rfl rfl ?_
  refine RL.move rfl rfl rfl rfl ?_
  refine RL.lenS Try.runUnderlying23 rfl rfl rfl rfl ?_
  refine RL.move rfl rfl rfl rfl ?_
  refine RL.lenS Try.runUnderlying23 rfl rfl rfl rfl ?_
  refine RL.max rfl rfl rfl rfl rfl ?_
  refine RL.bin rfl rfl rfl rfl rfl rfl ?_
  refine RL.nil ?_
  refine NQ.seq ?_
  refine CW.only (.cons (k := 0) rfl (.cons (k := 1) rfl (.cons (k := 5) rfl (.cons (k := 6) rfl (.cons (k := 13) rfl .nil))))) ?_
  -- STOP: if; todo top: ["code", ["cond", ["t", 13], ["skip"], ["exit", 0]]]
  refine CW.cond rfl (fun hlt => ?_) (fun hlt => ?_)
  ·
    refine CW.skip ?_
    refine NQ.seq ?_
    refine CW.seq ?_
    refine CW.block ?_
    refine CW.seq ?_
    refine CW.regionD (Sq.of [0, 1, 2, 3, 4, 5, 6, 7, 8, 9, 10, 11, 12, 13, 14, 15, 16, 17, 18, 19, 20]) [] [] mixed (by kernel_rfl) ?_
    refine RL.move rfl rfl rfl rfl ?_
    refine RL.move rfl rfl rfl rfl ?_
    refine RL.lenS Try.runUnderlying23 rfl rfl rfl rfl ?_
    refine RL.bin rfl rfl rfl rfl rfl rfl ?_
    refine RL.move rfl rfl rfl rfl ?_
    -- STOP: part 20; op 5: d=21 ["move", ["t", 6]] guard=[4, False] (ref.go:45)
    have hlt : i < max a.length b.length := by simp at hlt; omega
    refine RL.part (d := 20) rfl (fun h1 => ?_) (fun h1 => ?_)
    ·
      refine RL.skip rfl rfl rfl rfl ?_
      refine RL.skip rfl rfl rfl rfl ?_
      refine RL.skip rfl rfl rfl rfl ?_
      refine RL.skip rfl rfl rfl rfl ?_
      refine RL.pickT rfl rfl rfl rfl rfl ?_
      refine RL.move rfl rfl rfl rfl ?_
      refine RL.skip rfl rfl rfl rfl ?_
      refine RL.skip rfl rfl rfl rfl ?_
      refine RL.skip rfl rfl rfl rfl ?_
      refine RL.skip rfl rfl rfl rfl ?_
      refine RL.skip rfl rfl rfl rfl ?_
      refine RL.skip rfl rfl rfl rfl ?_
      refine RL.skip rfl rfl rfl rfl ?_
      refine RL.skip rfl rfl rfl rfl ?_
      refine RL.skip rfl rfl rfl rfl ?_
      refine RL.pickT rfl rfl rfl rfl rfl ?_
      refine RL.nil ?_
      refine NQ.seq ?_
      refine CW.only (.cons (k := 0) rfl (.cons (k := 1) rfl (.cons (k := 5) rfl (.cons (k := 6) rfl (.cons (k := 36) rfl .nil))))) ?_
      refine CW.condT rfl rfl ?_
      refine CW.region (ef := []) (bk := []) ?_
      refine RL.move rfl rfl rfl rfl ?_
      refine RL.binX rfl rfl rfl rfl rfl rfl (wrapV_i64 (by omega) (by omega)) ?_
      refine RL.assign rfl rfl rfl rfl ?_
      refine RL.nil ?_
      refine NQ.block ?_
      refine NQ.seq ?_
      refine CW.region (ef := []) (bk := []) ?_
      refine RL.move rfl rfl rfl rfl ?_
      refine RL.binX rfl rfl rfl rfl rfl rfl (wrapV_i64 (by omega) (by omega)) ?_
      refine RL.assign rfl rfl rfl rfl ?_
      refine RL.nil ?_
      -- STOP: round; todo top: ["N"]
      have h1 : a.length ≤ i := by simp at h1; omega
      have hs : cnt a b (i + 1) = cnt a b i + 1 := by
        rw [cnt, if_neg (by rw [List.getElem?_eq_none h1, List.getElem?_eq_getElem (by omega)]; simp)]
      exact NQ.round (g := i) (i + 1) hlt (by omega) (.cons rfl (.cons rfl (.cons (by rw [hs]; rfl) (.cons rfl .nil)))) (fun _ h => h)
    ·
      refine RL.move rfl rfl rfl rfl ?_
      refine RL.move rfl rfl rfl rfl ?_
      refine RL.lenS Try.runUnderlying23 rfl rfl rfl rfl ?_
      refine RL.bin rfl rfl rfl rfl rfl rfl ?_
      refine RL.pickF rfl rfl rfl rfl rfl ?_
      refine RL.move rfl rfl rfl rfl ?_
      -- STOP: part 26; op 11: d=27 ["move", ["t", 0]] guard=[10, False] (ref.go:45)
      have h1 : i < a.length := by simp at h1; omega
      refine RL.part (d := 26) rfl (fun h2 => ?_) (fun h2 => ?_)
      ·
        refine RL.skip rfl rfl rfl rfl ?_
        refine RL.skip rfl rfl rfl rfl ?_
        refine RL.skip rfl rfl rfl rfl ?_
        refine RL.skip rfl rfl rfl rfl ?_
        refine RL.skip rfl rfl rfl rfl ?_
        refine RL.skip rfl rfl rfl rfl ?_
        refine RL.skip rfl rfl rfl rfl ?_
        refine RL.skip rfl rfl rfl rfl ?_
        refine RL.skip rfl rfl rfl rfl ?_
        refine RL.pickT rfl rfl rfl rfl rfl ?_
        refine RL.nil ?_
        refine NQ.seq ?_
        refine CW.only (.cons (k := 0) rfl (.cons (k := 1) rfl (.cons (k := 5) rfl (.cons (k := 6) rfl (.cons (k := 36) rfl .nil))))) ?_
        refine CW.condT rfl rfl ?_
        refine CW.region (ef := []) (bk := []) ?_
        refine RL.move rfl rfl rfl rfl ?_
        refine RL.binX rfl rfl rfl rfl rfl rfl (wrapV_i64 (by omega) (by omega)) ?_
        refine RL.assign rfl rfl rfl rfl ?_
        refine RL.nil ?_
        refine NQ.block ?_
        refine NQ.seq ?_
        refine CW.region (ef := []) (bk := []) ?_
        refine RL.move rfl rfl rfl rfl ?_
        refine RL.binX rfl rfl rfl rfl rfl rfl (wrapV_i64 (by omega) (by omega)) ?_
        refine RL.assign rfl rfl rfl rfl ?_
        refine RL.nil ?_
        -- STOP: round; todo top: ["N"]
        have h2 : b.length ≤ i := by simp at h2; omega
        have hs : cnt a b (i + 1) = cnt a b i + 1 := by
          rw [cnt, if_neg (by rw [List.getElem?_eq_none h2, List.getElem?_eq_getElem (by omega)]; simp)]
        exact NQ.round (g := i) (i + 1) hlt (by omega) (.cons rfl (.cons rfl (.cons (by rw [hs]; rfl) (.cons rfl .nil)))) (fun _ h => h)
      ·
        refine RL.move rfl rfl rfl rfl ?_
        refine RL.move rfl rfl rfl rfl ?_
        -- STOP: op; op 13: d=29 ["indexAddr", 23, ["t", 27], ["t", 28]] guard=[10, False] (ref.go:45)
        have h2 : i < b.length := by simp at h2; omega
        obtain ⟨pa, rfl⟩ := sls_some hpq.1 (by omega)
        obtain ⟨qa, rfl⟩ := sls_some hpq.2 (by omega)
        have g1 : (bytes a)[i * 1]? = some (U8 (a.getD i 0)) := by rw [Nat.mul_one]; exact bytes_get h1
        have g2 : (bytes b)[i * 1]? = some (U8 (b.getD i 0)) := by rw [Nat.mul_one]; exact bytes_get h2
        have hx : ((a.getD i 0).toNat : Int) = (b.getD i 0).toNat ↔ a[i]? = b[i]? := by
          rw [List.getElem?_eq_getElem h1, List.getElem?_eq_getElem h2, List.getD_eq_getElem?_getD, List.getD_eq_getElem?_getD, List.getElem?_eq_getElem h1, List.getElem?_eq_getElem h2]
          simp only [Option.getD_some, Option.some.injEq]
          exact ⟨fun h => BitVec.eq_of_toNat_eq (by omega), fun h => by rw [h]⟩
        refine RL.idx (j := i) Try.runUnderlying23 Try.sizeOf5 rfl rfl rfl rfl rfl rfl h1 ?_
        -- STOP: op; op 14: d=30 ["load", 5, ["t", 29]] guard=[10, False] (ref.go:45)
        refine RL.load Try.isAgg5 rfl rfl rfl rfl (Rd.getS (List.Mem.head _) g1) ?_
        refine RL.move rfl rfl rfl rfl ?_
        refine RL.move rfl rfl rfl rfl ?_
        -- STOP: op; op 17: d=33 ["indexAddr", 23, ["t", 31], ["t", 32]] guard=[10, False] (ref.go:45)
        refine RL.idx (j := i) Try.runUnderlying23 Try.sizeOf5 rfl rfl rfl rfl rfl rfl h2 ?_
        -- STOP: op; op 18: d=34 ["load", 5, ["t", 33]] guard=[10, False] (ref.go:45)
        refine RL.load Try.isAgg5 rfl rfl rfl rfl (Rd.getS (List.Mem.tail _ (List.Mem.head _)) g2) ?_
        refine RL.bin rfl rfl rfl rfl rfl rfl ?_
        refine RL.pickF rfl rfl rfl rfl rfl ?_
        refine RL.nil ?_
        refine NQ.seq ?_
        refine CW.only (.cons (k := 0) rfl (.cons (k := 1) rfl (.cons (k := 5) rfl (.cons (k := 6) rfl (.cons (k := 36) rfl .nil))))) ?_
        -- STOP: if; todo top: ["code", ["cond", ["t", 36], ["region", 6, [{"d": 37, "op": ["move", ["t", 5]], "ty": 3, "pos": "ref.go:46", "after": [], "guard": null}, {"d": 38, "op": ["binOp", "Go.BinOp.add", 3, ["t", 37], ["c", 
        refine CW.cond rfl (fun hne => ?_) (fun hne => ?_)
        ·
          refine CW.region (ef := []) (bk := []) ?_
          refine RL.move rfl rfl rfl rfl ?_
          refine RL.binX rfl rfl rfl rfl rfl rfl (wrapV_i64 (by omega) (by omega)) ?_
          refine RL.assign rfl rfl rfl rfl ?_
          refine RL.nil ?_
          refine NQ.block ?_
          refine NQ.seq ?_
          refine CW.region (ef := []) (bk := []) ?_
          refine RL.move rfl rfl rfl rfl ?_
          refine RL.binX rfl rfl rfl rfl rfl rfl (wrapV_i64 (by omega) (by omega)) ?_
          refine RL.assign rfl rfl rfl rfl ?_
          refine RL.nil ?_
          -- STOP: round; todo top: ["N"]
          have hs : cnt a b (i + 1) = cnt a b i + 1 := by
            rw [cnt, if_neg (fun h => by have := hx.2 h; rw [this] at hne; simp at hne)]
          exact NQ.round (g := i) (i + 1) hlt (by omega) (.cons rfl (.cons rfl (.cons (by rw [hs]; rfl) (.cons rfl .nil)))) (fun _ h => h)
        ·
          refine CW.skip ?_
          refine NQ.block ?_
          refine NQ.seq ?_
          refine CW.region (ef := []) (bk := []) ?_
          refine RL.move rfl rfl rfl rfl ?_
          refine RL.binX rfl rfl rfl rfl rfl rfl (wrapV_i64 (by omega) (by omega)) ?_
          refine RL.assign rfl rfl rfl rfl ?_
          refine RL.nil ?_
          -- STOP: round; todo top: ["N"]
          have hs : cnt a b (i + 1) = cnt a b i := by
            rw [cnt, if_pos (hx.1 (by simpa using hne))]; rfl
          exact NQ.round (g := i) (i + 1) hlt (by omega) (.cons rfl (.cons rfl (.cons (by rw [hs]; rfl) (.cons rfl .nil)))) (fun _ h => h)
  ·
    refine CW.exit ?_
    refine XQ.seq ?_
    refine XQ.seq ?_
    refine XQ.hit ?_
    refine NQ.seq ?_
    refine CW.seq ?_
    refine CW.region (ef := []) (bk := []) ?_
    refine RL.move rfl rfl rfl rfl ?_
    refine RL.assign rfl rfl rfl rfl ?_
    refine RL.nil ?_
    refine NQ.seq ?_
    refine CW.only (.cons (k := 4) rfl .nil) ?_
    refine CW.ret ?_
    -- STOP: ret; end
    have hil : i = max a.length b.length := by simp at hlt; omega
    exact RQ.post (res1 rfl rfl) (Split.none _) ⟨by rw [hil]; rfl, rfl, rfl⟩

theorem same_any (p q : Option Addr) (n m c1 c2 : Nat) (a b : List B8) :
    Spc Try.prog 45 #[.slice p n c1, .slice q m c2] [sls p 1 n (bytes a), sls q 1 m (bytes b)] [] (Is (.bool (a == b))) := by
  refine Spc.enter Try.func45 rfl rfl rfl (fun w0 hw0 => ?_)
  refine CW.seq ?_
  refine CW.region (ef := []) (bk := []) ?_
  refine RL.assign rfl rfl rfl rfl ?_
  refine RL.nil ?_
  refine NQ.seq ?_
  refine CW.seq ?_
  refine CW.region (ef := []) (bk := []) ?_
  refine RL.move rfl rfl rfl rfl ?_
  -- STOP: op; op 1: d=6 ["convert", 23, 9, ["t", 5]] guard=None (base.go:42)
  refine RL.bytesStr (bs := a) (e := 5) (by kernel_rfl) (by kernel_rfl) (by kernel_rfl) rfl rfl rfl rfl (Src.sls (by repeat (first | exact List.Mem.head _ | apply List.Mem.tail))) ?_
  refine RL.move rfl rfl rfl rfl ?_
  -- STOP: op; op 3: d=8 ["convert", 23, 9, ["t", 7]] guard=None (base.go:42)
  refine RL.bytesStr (bs := b) (e := 5) (by kernel_rfl) (by kernel_rfl) (by kernel_rfl) rfl rfl rfl rfl (Src.sls (by repeat (first | exact List.Mem.head _ | apply List.Mem.tail))) ?_
  -- STOP: op; op 4: d=9 ["binOp", "Go.BinOp.eql", 9, ["t", 6], ["t", 8], 9] guard=None (base.go:42)
  refine RL.cmp rfl rfl rfl rfl rfl (eql_txt a b) ?_
  refine RL.assign rfl rfl rfl rfl ?_
  refine RL.nil ?_
  refine NQ.seq ?_
  refine CW.only (.cons (k := 4) rfl .nil) ?_
  refine CW.ret ?_
  -- STOP: ret; end
  exact RQ.post (res1 rfl rfl) (Split.none _) ⟨rfl, rfl, rfl⟩
end Go.Proofs.Ytpokocnnaendaaa
