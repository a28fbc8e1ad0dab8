import Derived.Test.YtbdnebedmdoehaaGreatS13
import Derived.Test.YtbdnebedmdoehaaGreatP8
import Derived.Test.YtbdnebedmdoehaaGreatF5
namespace Go.Proofs.YtbdnebedmdoehaaGreat
open Go.PK
/-! ### The reference's receiver: what it told stands in a list -/
theorem cnt_at {e n : Int} : ∀ {m : Tm} {i : Nat}, m[i]? = some (e, n) → (∀ j, j < i → ∀ x, m[j]? = some x → x.1 ≠ e) → cnt e m = n ∧ ∀ v, putN e v m = m.set i (e, v)
  | [], _, h, _ => by simp at h
  | (a, k) :: r, 0, h, _ => by
    simp at h; obtain ⟨rfl, rfl⟩ := h
    simp [cnt, putN]
  | (a, k) :: r, i + 1, h, hn => by
    have h0 : a ≠ e := hn 0 (by omega) (a, k) rfl
    have h0' : ¬ e = a := fun h => h0 h.symm
    have ih := cnt_at (m := r) (i := i) (by simpa using h) (fun j hj x hx => hn (j + 1) (by omega) x (by simpa using hx))
    refine ⟨by rw [cnt, if_neg h0']; exact ih.1, fun v => ?_⟩
    rw [putN, if_neg h0', ih.2 v]; rfl
theorem bump_at {e n : Int} {m : Tm} {i : Nat} (h : m[i]? = some (e, n)) (hn : ∀ j, j < i → ∀ x, m[j]? = some x → x.1 ≠ e) : bump e m = m.set i (e, n + 1) := by
  obtain ⟨h1, h2⟩ := cnt_at h hn
  rw [bump, h1, h2]
theorem bump_new {e : Int} : ∀ {m : Tm}, (∀ x ∈ m, x.1 ≠ e) → cnt e m = 0 ∧ ∀ v, putN e v m = m ++ [(e, v)]
  | [], _ => by simp [cnt, putN]
  | (a, k) :: r, h => by
    have h0 : ¬ e = a := fun hh => h (a, k) (by simp) hh.symm
    have ih := bump_new (m := r) (fun x hx => h x (by simp [hx]))
    refine ⟨by rw [cnt, if_neg h0]; exact ih.1, fun v => ?_⟩
    rw [putN, if_neg h0, ih.2 v]; rfl
structure RRk where
  b : Nat
  y : Nat
  s : Sch
def rrC (B : RRk) (z : RSt) (tb : Option Nat) (tc : Nat) : List Value := .int .i64 B.s.st :: .int .i64 B.s.ln :: .int .i64 B.s.lg :: .int .i64 B.s.of :: .int .u32 (z.iv : Int) :: (bytes z.k ++ [.pointer (some ⟨B.y, 0, none⟩), .int .i64 (z.bad : Int), .int .i64 (z.rel : Int), slO tb z.m.length tc])
abbrev rrI (B : RRk) (z : RSt) (tb : Option Nat) (tc : Nat) : It := cel B.b (rrC B z tb tc) 114
def tdc (x : Int × Int) : List Value := [.int .i64 x.1, .int .i64 x.2]
abbrev rtI (tb : Option Nat) (tc : Nat) (m : Tm) : It := own tb tc 122 2 m.length (m.flatMap tdc)
theorem rr_len (B : RRk) {z : RSt} (tb : Option Nat) (tc : Nat) (h : z.k.length = 32) : (rrC B z tb tc).length = 41 := by simp [rrC, h]
theorem rr_tail (B : RRk) {z : RSt} (tb : Option Nat) (tc : Nat) (h : z.k.length = 32) (j : Nat) : (rrC B z tb tc)[0 + 37 + j]? = ([.pointer (some ⟨B.y, 0, none⟩), .int .i64 (z.bad : Int), .int .i64 (z.rel : Int), slO tb z.m.length tc] : List Value)[j]? := by
  rw [rrC, show 0 + 37 + j = (32 + j) + 1 + 1 + 1 + 1 + 1 by omega]
  simp only [List.getElem?_cons_succ]
  rw [List.getElem?_append_right (by simp [h]), List.length_map, h, Nat.add_sub_cancel_left]
theorem rr_iv (B : RRk) (z : RSt) (tb : Option Nat) (tc : Nat) : (rrC B z tb tc)[0 + 4]? = some (.int .u32 (z.iv : Int)) := rfl
theorem rr_y (B : RRk) {z : RSt} (tb : Option Nat) (tc : Nat) (h : z.k.length = 32) : (rrC B z tb tc)[0 + 37]? = some (.pointer (some ⟨B.y, 0, none⟩)) := rr_tail B tb tc h 0
theorem rr_bad (B : RRk) {z : RSt} (tb : Option Nat) (tc : Nat) (h : z.k.length = 32) : (rrC B z tb tc)[0 + 38]? = some (.int .i64 (z.bad : Int)) := rr_tail B tb tc h 1
theorem rr_rel (B : RRk) {z : RSt} (tb : Option Nat) (tc : Nat) (h : z.k.length = 32) : (rrC B z tb tc)[0 + 39]? = some (.int .i64 (z.rel : Int)) := rr_tail B tb tc h 2
theorem rr_td (B : RRk) {z : RSt} (tb : Option Nat) (tc : Nat) (h : z.k.length = 32) : (rrC B z tb tc)[0 + 40]? = some (slO tb z.m.length tc) := rr_tail B tb tc h 3
end Go.Proofs.YtbdnebedmdoehaaGreat

namespace Go.Proofs.YtbdnebedmdoehaaGreat
open Go.PK
theorem tds_len (m : Tm) : (m.flatMap tdc).length = m.length * 2 := length_flat (fun _ _ => rfl)
theorem tds_set {W : Tm} {i : Nat} {q : Int × Int} (hi : W[i]? = some q) (x : Int) : spl (W.flatMap tdc) (i * 2 + 1) [.int .i64 x] = (W.set i (q.1, x)).flatMap tdc := by
  obtain ⟨hlt, hq⟩ := List.getElem?_eq_some_iff.1 hi
  obtain ⟨A, B, e, hA⟩ : ∃ A B, W = A ++ q :: B ∧ A.length = i := ⟨W.take i, W.drop (i + 1), by rw [← hq, ← List.drop_eq_getElem_cons hlt, List.take_append_drop], by rw [List.length_take]; omega⟩
  subst e
  have e1 : (A ++ q :: B).flatMap tdc = A.flatMap tdc ++ (tdc q ++ B.flatMap tdc) := by simp
  have e2 : ((A ++ q :: B).set i (q.1, x)).flatMap tdc = A.flatMap tdc ++ (tdc (q.1, x) ++ B.flatMap tdc) := by subst hA; simp
  rw [e1, e2, show i * 2 + 1 = (A.flatMap tdc).length + 1 by rw [tds_len, hA], spl_app]
  congr 1
  simp only [tdc, List.cons_append, spl]
  congr 2
  show spl (B.flatMap tdc) 0 [] = B.flatMap tdc
  cases B.flatMap tdc <;> rfl
theorem td_rd {I H : List It} {b cap i j : Nat} {R : Tm} {x : Int × Int} {v : Value} (hm : rtI (some b) cap R ∈ H) (hx : R[i]? = some x) (hv : (tdc x)[j]? = some v) : Rd I H ⟨b, 0 + i * 2 + j, none⟩ v := by
  have := (own_rds (I := I) hm hx (fun _ _ => rfl)).rd hv
  rwa [add_none] at this
theorem set_td (B : RRk) {z : RSt} (h : z.k.length = 32) (tb tb' : Option Nat) (tc tc' : Nat) (m : Tm) {n : Nat} (hn : n = m.length) : spl (rrC B z tb tc) (0 + 40) [slO tb' n tc'] = rrC B { z with m := m } tb' tc' := by
  subst hn
  have h' : (bytes z.k).length = 32 := by rw [List.length_map, h]
  have e : ∀ (v : Value), [.int .i64 B.s.st, .int .i64 B.s.ln, .int .i64 B.s.lg, .int .i64 B.s.of, .int .u32 (z.iv : Int)] ++ bytes z.k ++ [.pointer (some ⟨B.y, 0, none⟩), .int .i64 (z.bad : Int), .int .i64 (z.rel : Int)] ++ ([v] ++ []) = .int .i64 B.s.st :: .int .i64 B.s.ln :: .int .i64 B.s.lg :: .int .i64 B.s.of :: .int .u32 (z.iv : Int) :: (bytes z.k ++ [.pointer (some ⟨B.y, 0, none⟩), .int .i64 (z.bad : Int), .int .i64 (z.rel : Int), v]) := fun v => by simp
  rw [rrC, rrC, ← e, ← e]; exact seg_spl (by simp [h']) rfl
def RTellR (B : RRk) (z : RSt) (e : Int) : Value → List It → List It → Prop := fun v I' H' => ∃ tb' tc', v = .int .i64 e ∧ I' = [] ∧ H' = [rrI B { z with m := bump e z.m } tb' tc', rtI tb' tc' (bump e z.m)]
theorem rtell_any (B : RRk) (z : RSt) (hk : z.k.length = 32) (hm : TmB z.m 1000000) (hl : z.m.length ≤ 1000000) (tb : Option Nat) (tc : Nat) (e : Int) :
    Spc Tryz.prog 74 #[.pointer (some ⟨B.b, 0, none⟩), .int .i64 e] [] [rrI B z tb tc, rtI tb tc z.m] (RTellR B z e) := by
  refine Spc.enter Tryz.func74 rfl rfl rfl (fun w0 hw0 => ?_)
  refine CW.seq (CW.rg (RL.p rfl (RL.nil (NQ.seq (CW.seq (CW.seq (CW.rg (RL.p rfl (RL.nil (NQ.seq (CW.block ?_)))))))))))
  refine CW.fact (p := tb = none → z.m.length = 0) (fun w hC e => by
    have := own_sls (hC.s.h (rtI tb tc z.m) (by repeat (first | exact List.Mem.head _ | apply List.Mem.tail)))
    exact sls_nil this (by rw [e]; rfl)) (fun hpa => ?_)
  refine CW.loop (γ := Nat) (fun i => i ≤ z.m.length ∧ ∀ (j : Nat), j < i → ∀ x, z.m[j]? = some x → x.1 ≠ e) (fun i => [(0, .pointer (some ⟨B.b, 0, none⟩)), (1, .int .i64 e), (5, .int .i64 (i : Int))]) (fun _ => []) (fun _ => [rrI B z tb tc, rtI tb tc z.m]) (fun i => z.m.length - i) 0 ⟨by omega, by omega⟩ (.cons rfl (.cons rfl (.cons rfl .nil))) (fun w h => h) ?_
  rintro i ⟨hi, hno⟩
  refine CW.seq (CW.seq (CW.rg (RL.p rfl (RL.p rfl (RL.p rfl (RL.fieldAddr fa_114_6 rfl rfl rfl rfl (RL.load Tryz.isAgg112 rfl rfl rfl rfl (Rd.get (by repeat (first | exact List.Mem.head _ | apply List.Mem.tail)) (rr_td B tb tc hk)) ?_)))))))
  refine RL.lenS Tryz.runUnderlying112 rfl rfl rfl rfl (RL.p rfl (RL.nil (NQ.seq (CW.ok [0, 1, 5, 12] rfl ?_))))
  refine CW.cond rfl (fun hlt => ?_) (fun hlt => ?_)
  ·
    have hi2 : i < z.m.length := by simp at hlt; omega
    clear hlt
    obtain ⟨ba, rfl⟩ : ∃ q, tb = some q := by
      cases tb with
      | none => exact absurd (hpa rfl) (by omega)
      | some q => exact ⟨q, rfl⟩
    have hx := List.getElem?_eq_getElem hi2
    have hqm := hm _ (List.getElem_mem hi2)
    generalize z.m[i] = q at hx hqm
    refine CW.skip (NQ.seq (CW.seq (CW.block (CW.seq (CW.rg (RL.p rfl (RL.p rfl (RL.fieldAddr fa_114_6 rfl rfl rfl rfl (RL.load Tryz.isAgg112 rfl rfl rfl rfl (Rd.get (by repeat (first | exact List.Mem.head _ | apply List.Mem.tail)) (rr_td B (some ba) tc hk)) ?_)))))))))
    refine RL.p rfl (RL.idxAt (j := i) Tryz.runUnderlying112 Tryz.sizeOf122 rfl rfl rfl rfl rfl rfl (hi2) (RL.fieldAddr fa_122_0 rfl rfl rfl rfl (RL.load Tryz.isAgg42 rfl rfl rfl rfl (td_rd (j := 0) (by repeat (first | exact List.Mem.head _ | apply List.Mem.tail)) hx rfl) ?_)))
    refine RL.p rfl (RL.p rfl (RL.nil (NQ.seq (CW.ok [0, 1, 5, 24] rfl ?_))))
    refine CW.cond rfl (fun he => ?_) (fun he => ?_)
    ·
      refine CW.seq (CW.region (ef := [11]) (bk := [11]) (RL.p rfl (RL.p rfl (RL.fieldAddr fa_114_6 rfl rfl rfl rfl (RL.load Tryz.isAgg112 rfl rfl rfl rfl (Rd.get (by repeat (first | exact List.Mem.head _ | apply List.Mem.tail)) (rr_td B (some ba) tc hk)) ?_)))))
      refine RL.p rfl (RL.idxAt (j := i) Tryz.runUnderlying112 Tryz.sizeOf122 rfl rfl rfl rfl rfl rfl (hi2) (RL.fieldAddr fa_122_1 rfl rfl rfl rfl (RL.load Tryz.isAgg3 rfl rfl rfl rfl (td_rd (j := 1) (by repeat (first | exact List.Mem.head _ | apply List.Mem.tail)) hx rfl) ?_)))
      refine RL.bx rfl (wrapV_i64 (by omega) (by omega)) ?_
      refine RL.idxAt (j := i) Tryz.runUnderlying112 Tryz.sizeOf122 rfl rfl rfl rfl rfl rfl (hi2) (RL.fieldAddr fa_122_1 rfl rfl rfl rfl (RL.storeO (off := i * 2 + 1) (vs := [_]) (tds_set hx _) Tryz.sizeOf3 rfl rfl rfl rfl rfl (by rw [add_none, Nat.add_assoc]) rfl rfl rfl (by rw [tds_len]; simp; omega) (by repeat (first | exact Upd.here | apply Upd.there)) ?_))
      refine RL.nil (NQ.seq (CW.ok [0, 1, 5] rfl (CW.seq (CW.rg (RL.p rfl (RL.p rfl (RL.nil (NQ.seq (CW.ret (RQ.block (RQ.seq (RQ.seq (RQ.block ?_)))))))))))))
      refine RQ.seq ?_
      have he : q.1 = e := by simpa using he
      have hb := bump_at (e := e) (n := q.2) (by rw [hx, ← he]) hno
      exact RQ.post (res1 rfl rfl) (.keep (.keep .nil)) ⟨some ba, tc, rfl, rfl, by rw [hb]; simp [rrI, rtI, rrC, he]⟩
    ·
      have he : ¬ q.1 = e := by simpa using he
      refine CW.skip (NQ.block (NQ.seq (CW.rg (RL.p rfl (RL.bx rfl (wrapV_i64 (by omega) (by omega)) ?_)))))
      refine RL.p rfl (RL.nil ?_)
      refine NQ.round (g := i) (i + 1) ⟨hi2, fun j hj o ho => ?_⟩ (by show z.m.length - (i + 1) < z.m.length - i; omega) (.cons rfl (.cons rfl (.cons rfl .nil))) (fun w h => h)
      by_cases hji : j = i
      · subst hji; rw [hx] at ho; cases ho; exact he
      · exact hno j (by omega) o ho
  ·
    have hin : i = z.m.length := by simp at hlt; omega
    subst hin
    have hb := bump_new (e := e) (m := z.m) (fun x hx => by
      obtain ⟨j, hj⟩ := List.mem_iff_getElem?.1 hx
      exact hno j (List.getElem?_eq_some_iff.1 hj).1 x hj)
    have hb' : bump e z.m = z.m ++ [(e, 1)] := by rw [bump, hb.1, hb.2]; rfl
    refine CW.exit (XQ.seq (XQ.seq (XQ.hit (NQ.seq (CW.seq (CW.region (ef := [7, 8, 11]) (bk := [8, 11]) (RL.p rfl (RL.p rfl (RL.p rfl (RL.fieldAddr fa_114_6 rfl rfl rfl rfl (RL.load Tryz.isAgg112 rfl rfl rfl rfl (Rd.get (by repeat (first | exact List.Mem.head _ | apply List.Mem.tail)) (rr_td B tb tc hk)) ?_)))))))))))
    refine RL.p rfl (RL.buildS [_, _] Tryz.zeroValue122 pl_122 rfl rfl rfl rfl rfl (RL.buildSlice [_, _] Tryz.runUnderlying112 Tryz.sizeOf122 Tryz.zeroValue122 rfl rfl (by decide) (by decide) rfl rfl rfl rfl rfl rfl ?_))
    intro b1
    refine RL.appendq el_112 rfl rfl rfl rfl rfl rfl rfl ?_
    intro ob1 cap1 ho1
    refine RL.p rfl (RL.fieldAddr fa_114_6 rfl rfl rfl rfl (RL.storeX (vs := [_]) (set_td B hk tb ob1 tc cap1 (bump e z.m) (by rw [hb']; simp)) Tryz.sizeOf112 rfl rfl rfl rfl rfl rfl rfl rfl (by repeat (first | exact Upd.here | apply Upd.there)) (by rw [rr_len B tb tc hk]; show 0 + 40 + 1 ≤ 41; decide) ?_))
    refine RL.nil (NQ.seq (CW.ok [1] rfl (CW.seq (CW.rg (RL.p rfl (RL.p rfl (RL.nil (NQ.seq (CW.ret (RQ.rea (fun _ h => h) (H' := [rrI B { z with m := bump e z.m } ob1 cap1, own ob1 cap1 122 2 (z.m.length + 1) (z.m.flatMap tdc ++ [.int .i64 e, .int .i64 1])]) (by repeat (first | exact Rea.nil | (apply Rea.cons; (solve | (repeat (first | exact Del.here | apply Del.there)))))) ?_))))))))))
    exact RQ.post (res1 rfl rfl) (.keep (.keep .nil)) ⟨ob1, cap1, rfl, rfl, by rw [hb']; simp [rtI, tdc]⟩
end Go.Proofs.YtbdnebedmdoehaaGreat

namespace Go.Proofs.YtbdnebedmdoehaaGreat
open Go.PK
def rrZ : List Value := [.int .i64 0, .int .i64 0, .int .i64 0, .int .i64 0, .int .u32 0] ++ (bytes (List.replicate 32 0#8) ++ [.pointer none, .int .i64 0, .int .i64 0, .slice none 0 0])
theorem fill_rr (B : RRk) {k : List B8} (hk : k.length = 32) {places : Array (Nat × Nat)} (hp : places = #[(0, 4), (4, 1), (5, 32), (37, 1), (38, 1), (39, 1), (40, 1)]) :
    fillL (places[·]?) rrZ [(0, .agg #[.int .i64 B.s.st, .int .i64 B.s.ln, .int .i64 B.s.lg, .int .i64 B.s.of]), (2, .agg (bytes k).toArray), (3, .pointer (some ⟨B.y, 0, none⟩))] = some (rrC B (RBk.z0 k) none 0) := by
  subst hp
  have h0 : (bytes (List.replicate 32 0#8)).length = 32 := rfl
  have hb : (bytes k).length = 32 := by rw [List.length_map, hk]
  refine fill_seg (vs := B.s.cells) [] [.int .i64 0, .int .i64 0, .int .i64 0, .int .i64 0] ([.int .u32 0] ++ (bytes (List.replicate 32 0#8) ++ [.pointer none, .int .i64 0, .int .i64 0, .slice none 0 0])) rfl rfl rfl rfl rfl rfl ?_
  refine fill_seg (vs := bytes k) (B.s.cells ++ [.int .u32 0]) (bytes (List.replicate 32 0#8)) [.pointer none, .int .i64 0, .int .i64 0, .slice none 0 0] rfl (agg_cells _) rfl rfl h0 hb ?_
  refine fill_seg (vs := [.pointer (some ⟨B.y, 0, none⟩)]) (B.s.cells ++ [.int .u32 0] ++ bytes k) [.pointer none] [.int .i64 0, .int .i64 0, .slice none 0 0] rfl rfl (by simp) (by simp [Sch.cells, hk]) rfl rfl ?_
  simp [fillL, rrC, Sch.cells]
abbrev RTR (B : RRk) (z : RSt) (tb : Option Nat) (tc : Nat) (ob : Option Nat) (cp : Nat) : List It := [rrI B z tb tc, rtI tb tc z.m, rbufI B.y ob z.c.length cp, itmI ob cp z.c.length z.c]
def RNewR (s : Sch) (k : List B8) : Value → List It → List It → Prop := fun v I' H' => I' = [] ∧ ((s.Ok ∧ ∃ B : RRk, B.s = s ∧ v = .tuple #[.pointer (some ⟨B.b, 0, none⟩), .int .i64 0] ∧ H' = RTR B (RBk.z0 k) none 0 none 0) ∨ (¬ s.Ok ∧ v = .tuple #[.pointer none, .int .i64 2] ∧ H' = []))
theorem rtnew_any (s : Sch) (k : List B8) (hk : k.length = 32) : Spc Tryz.prog 25 #[.agg #[.int .i64 s.st, .int .i64 s.ln, .int .i64 s.lg, .int .i64 s.of], .agg (bytes k).toArray] [] [] (RNewR s k) := by
  have hk32 : (bytes k).length = 32 := by rw [List.length_map, hk]
  refine Spc.enter Tryz.func25 rfl rfl rfl (fun w0 hw0 => ?_)
  refine CW.seq (CW.region (ef := [0, 1]) (bk := []) (RL.box rfl rfl rfl rfl rfl rfl ?_))
  intro b1
  refine RL.box rfl rfl rfl rfl rfl rfl ?_
  intro b2
  refine RL.p rfl (RL.p rfl (RL.nil (NQ.seq (CW.seq (CW.seq (CW.rg (RL.loadSq Tryz.isAgg60 Tryz.sizeOf60 rfl rfl rfl rfl ?_)))))))
  refine RL.callvq (rscheck s) Tryz.call53 rfl rfl rfl rfl ?_
  refine RL.p rfl (RL.nil (NQ.seq (CW.seq (CW.rg (RL.p rfl (RL.p rfl (RL.nil (NQ.seq ?_))))))))
  refine CW.cond rfl (fun h => ?_) (fun h => ?_)
  ·
    refine CW.seq (CW.rg (RL.p rfl (RL.p rfl (RL.p rfl (RL.nil (NQ.seq (CW.ok [2, 3, 4, 5] rfl (CW.ret (RQ.seq ?_)))))))))
    have hno : ¬ s.Ok := fun e => by simp [Sch.e, e] at h
    refine RQ.post (res2 rfl rfl rfl) (Split.none _) ⟨rfl, .inr ⟨hno, by rw [Sch.e, if_neg hno], rfl⟩⟩
  ·
    have hok : s.Ok := Classical.byContradiction fun e => by simp [Sch.e, e] at h
    refine CW.ownNone (e := 122) 2 (CW.ownNone (e := 120) 23 (CW.skip (NQ.seq (CW.ok [2, 3] rfl (CW.seq (CW.region (ef := [3, 5]) (bk := []) (RL.loadSq Tryz.isAgg60 Tryz.sizeOf60 rfl rfl rfl rfl ?_)))))))
    refine RL.loadSq Tryz.isAgg23 Tryz.sizeOf23 rfl rfl rfl rfl ?_
    refine RL.buildS _ Tryz.zeroValue111 pl_111 rfl rfl rfl rfl rfl (RL.box rfl rfl rfl rfl rfl rfl ?_)
    intro b3
    refine RL.buildS (rrC ⟨0, b3, s⟩ (RBk.z0 k) none 0) Tryz.zeroValue114 pl_114 rfl rfl rfl rfl (fill_rr ⟨0, b3, s⟩ hk rfl) (RL.box rfl rfl rfl rfl rfl rfl ?_)
    intro b4
    refine RL.p rfl (RL.p rfl (RL.nil (NQ.seq (CW.ok [4, 5] rfl (CW.ret (RQ.rea (fun _ h => h) (H' := RTR ⟨b4, b3, s⟩ (RBk.z0 k) none 0 none 0) (by repeat (first | exact Rea.nil | (apply Rea.cons; (solve | (repeat (first | exact Del.here | apply Del.there)))))) ?_))))))
    exact RQ.post (res2 rfl rfl rfl) (.keep (.keep (.keep (.keep .nil)))) ⟨rfl, .inl ⟨hok, ⟨b4, b3, s⟩, rfl, rfl, rfl⟩⟩
end Go.Proofs.YtbdnebedmdoehaaGreat

namespace Go.Proofs.YtbdnebedmdoehaaGreat
open Go.PK
theorem rr_seg (B : RRk) (z : RSt) (tb : Option Nat) (tc : Nat) : rrC B z tb tc = [.int .i64 B.s.st, .int .i64 B.s.ln, .int .i64 B.s.lg, .int .i64 B.s.of, .int .u32 (z.iv : Int)] ++ (bytes z.k ++ [.pointer (some ⟨B.y, 0, none⟩), .int .i64 (z.bad : Int), .int .i64 (z.rel : Int), slO tb z.m.length tc]) := rfl
theorem set_riv (B : RRk) (z : RSt) (tb : Option Nat) (tc n : Nat) : spl (rrC B z tb tc) (0 + 4) [.int .u32 (n : Int)] = rrC B { z with iv := n } tb tc := by
  show spl _ 4 _ = _
  simp only [rrC, spl]
  cases hk : (bytes z.k ++ [Value.pointer (some ⟨B.y, 0, none⟩), .int .i64 (z.bad : Int), .int .i64 (z.rel : Int), slO tb z.m.length tc]) with
  | nil => simp [spl]
  | cons a l => simp [spl]
theorem set_rbad (B : RRk) {z : RSt} (h : z.k.length = 32) (tb : Option Nat) (tc : Nat) {n : Nat} {v : Int} (hv : v = n) : spl (rrC B z tb tc) (0 + 38) [.int .i64 v] = rrC B { z with bad := n } tb tc := by
  subst hv
  have h' : (bytes z.k).length = 32 := by rw [List.length_map, h]
  have e : ∀ n : Nat, rrC B { z with bad := n } tb tc = ([.int .i64 B.s.st, .int .i64 B.s.ln, .int .i64 B.s.lg, .int .i64 B.s.of, .int .u32 (z.iv : Int)] ++ bytes z.k ++ [.pointer (some ⟨B.y, 0, none⟩)]) ++ ([.int .i64 (n : Int)] ++ [.int .i64 (z.rel : Int), slO tb z.m.length tc]) := fun n => by simp [rrC]
  rw [show rrC B z tb tc = rrC B { z with bad := z.bad } tb tc from rfl, e, e]; exact seg_spl (by simp [h']) (by simp)
theorem set_rrel (B : RRk) {z : RSt} (h : z.k.length = 32) (tb : Option Nat) (tc : Nat) {n : Nat} {v : Int} (hv : v = n) : spl (rrC B z tb tc) (0 + 39) [.int .i64 v] = rrC B { z with rel := n } tb tc := by
  subst hv
  have h' : (bytes z.k).length = 32 := by rw [List.length_map, h]
  have e : ∀ n : Nat, rrC B { z with rel := n } tb tc = ([.int .i64 B.s.st, .int .i64 B.s.ln, .int .i64 B.s.lg, .int .i64 B.s.of, .int .u32 (z.iv : Int)] ++ bytes z.k ++ [.pointer (some ⟨B.y, 0, none⟩), .int .i64 (z.bad : Int)]) ++ ([.int .i64 (n : Int)] ++ [slO tb z.m.length tc]) := fun n => by simp [rrC]
  rw [show rrC B z tb tc = rrC B { z with rel := z.rel } tb tc from rfl, e, e]; exact seg_spl (by simp [h']) (by simp)
inductive RRaiseO (z : RSt) (iv : Nat) (key : List B8) : Int → RSt → Prop
  | no (h : iv ≤ z.iv) : RRaiseO z iv key 6 z
  | yes (h : ¬ iv ≤ z.iv) : RRaiseO z iv key 0 ⟨iv, key, z.bad + (rOut iv z.c).length, z.rel, rLeft iv z.c, z.m⟩
def RRaiseR (B : RRk) (z : RSt) (tb : Option Nat) (tc : Nat) (iv : Nat) (key : List B8) : Value → List It → List It → Prop := fun v I' H' => ∃ e z' ob cp, RRaiseO z iv key e z' ∧ v = .int .i64 e ∧ I' = [] ∧ H' = [rrI B z' tb tc, rbufI B.y ob z'.c.length cp, itmI ob cp z'.c.length z'.c]
theorem rtraise_any (B : RRk) (z : RSt) (hz : z.Ok) (tb : Option Nat) (tc : Nat) (ob : Option Nat) (cp : Nat) (iv : Nat) (hiv : iv < 4294967296) (key : List B8) (hkey : key.length = 32) (hro : (rOut iv z.c).length ≤ 1000000) :
    Spc Tryz.prog 54 #[.pointer (some ⟨B.b, 0, none⟩), .int .u32 (iv : Int), .agg (bytes key).toArray] [] [rrI B z tb tc, rbufI B.y ob z.c.length cp, itmI ob cp z.c.length z.c] (RRaiseR B z tb tc iv key) := by
  have hk := hz.k
  have hcl := hz.l
  have hbd := hz.bad
  have hk32 : (bytes key).length = 32 := by rw [List.length_map, hkey]
  refine Spc.enter Tryz.func54 rfl rfl rfl (fun w0 hw0 => ?_)
  refine CW.seq (CW.region (ef := [0]) (bk := []) (RL.box rfl rfl rfl rfl rfl rfl ?_))
  intro b1
  refine RL.p rfl (RL.nil (NQ.seq (CW.seq (CW.seq (CW.rg (RL.p rfl (RL.p rfl (RL.p rfl (RL.fieldAddr fa_114_1 rfl rfl rfl rfl (RL.load Tryz.isAgg24 rfl rfl rfl rfl (Rd.get (by repeat (first | exact List.Mem.head _ | apply List.Mem.tail)) (rr_iv B z tb tc)) ?_))))))))))
  refine RL.p rfl (RL.nil (NQ.seq (CW.ok [0, 1, 5, 6, 12] rfl ?_)))
  refine CW.cond rfl (fun h1 => ?_) (fun h1 => ?_)
  ·
    refine CW.seq (CW.rg (RL.p rfl (RL.nil (NQ.seq (CW.ret (RQ.seq ?_))))))
    have h1' : iv ≤ z.iv := by simp at h1; omega
    exact RQ.post (res1 rfl rfl) (.drop (.keep (.keep (.keep .nil)))) ⟨6, z, ob, cp, .no h1', rfl, rfl, rfl⟩
  ·
    have h1' : ¬ iv ≤ z.iv := by simp at h1; omega
    refine CW.skip (NQ.seq (CW.seq ?_))
    refine CW.cutG (γ := Option Nat × Nat) (fun _ => True) (fun _ => [(0, .pointer (some ⟨B.b, 0, none⟩)), (1, .int .u32 (iv : Int)), (5, .pointer (some ⟨b1, 0, none⟩))]) (fun _ => []) (fun g => [cel b1 (bytes key) 23, rrI B { z with bad := z.bad + (rOut iv z.c).length } tb tc, rbufI B.y g.1 (rLeft iv z.c).length g.2, itmI g.1 g.2 (rLeft iv z.c).length (rLeft iv z.c)]) ?_ ?_
    ·
      refine CW.regionD (.cons 0 (.cons 1 (.cons 2 (.cons 4 (.cons 5 (.cons 6 (.cons 7 (.cons 8 (.fork [3, 9] (fun k => (bif Nat.beq k 3 then (Sq.of [9, 10, 11, 12, 13, 14]) else (Sq.of [3, 10, 11, 12, 13, 14])))))))))))) [9, 14] [9, 14] [0, 1, 2, 4, 5, 6, 8, 10, 11, 12, 13] mixed (by kernel_rfl) ?_
      refine RL.p rfl (RL.p rfl (RL.fieldAddr fa_114_4 rfl rfl rfl rfl (RL.p rfl (RL.p rfl (RL.fieldAddr fa_114_3 rfl rfl rfl rfl (RL.load Tryz.isAgg108 rfl rfl rfl rfl (Rd.get (by repeat (first | exact List.Mem.head _ | apply List.Mem.tail)) (rr_y B tb tc hk)) ?_))))))
      refine RL.p rfl ?_
      refine RL.fork ⟨?_, ?_, trivial⟩
      ·
        refine RL.load Tryz.isAgg3 rfl rfl rfl rfl (Rd.get (by repeat (first | exact List.Mem.head _ | apply List.Mem.tail)) (rr_bad B tb tc hk)) ?_
        refine RL.callq (brtake_any B.y z.c ob cp (iv : Int) (fun x hx => hz.c x hx) (by omega)) Tryz.call73 rfl rfl rfl rfl rfl (.inr rfl) ?_
        rintro _ _ _ ⟨oc, cc, od, cd, rfl, rfl, rfl⟩
        refine RL.lenS Tryz.runUnderlying109 rfl rfl rfl rfl (RL.bx rfl (wrapV_i64 (by omega) (by omega)) ?_)
        refine RL.p rfl (RL.fieldAddr fa_114_4 rfl rfl rfl rfl (RL.storeX (vs := [_]) (set_rbad B hk tb tc (n := z.bad + (rOut iv z.c).length) (by omega)) Tryz.sizeOf3 rfl rfl rfl rfl rfl rfl rfl rfl (by repeat (first | exact Upd.here | apply Upd.there)) (by rw [rr_len B tb tc hk]; show 0 + 38 + 1 ≤ 41; decide) ?_))
        refine RL.nil ?_
        exact NQ.midG (od, cd) trivial (.cons rfl (.cons rfl (.cons rfl .nil))) (fun w h => h.rea (fun _ h => h) (by repeat (first | exact Rea.nil | (apply Rea.cons; (solve | (repeat (first | exact Del.here | apply Del.there)))))))
      ·
        refine RL.callq (brtake_any B.y z.c ob cp (iv : Int) (fun x hx => hz.c x hx) (by omega)) Tryz.call73 rfl rfl rfl rfl rfl (.inr rfl) ?_
        rintro _ _ _ ⟨oc, cc, od, cd, rfl, rfl, rfl⟩
        refine RL.load Tryz.isAgg3 rfl rfl rfl rfl (Rd.get (by repeat (first | exact List.Mem.head _ | apply List.Mem.tail)) (rr_bad B tb tc hk)) ?_
        refine RL.lenS Tryz.runUnderlying109 rfl rfl rfl rfl (RL.bx rfl (wrapV_i64 (by omega) (by omega)) ?_)
        refine RL.p rfl (RL.fieldAddr fa_114_4 rfl rfl rfl rfl (RL.storeX (vs := [_]) (set_rbad B hk tb tc (n := z.bad + (rOut iv z.c).length) (by omega)) Tryz.sizeOf3 rfl rfl rfl rfl rfl rfl rfl rfl (by repeat (first | exact Upd.here | apply Upd.there)) (by rw [rr_len B tb tc hk]; show 0 + 38 + 1 ≤ 41; decide) ?_))
        refine RL.nil ?_
        exact NQ.midG (od, cd) trivial (.cons rfl (.cons rfl (.cons rfl .nil))) (fun w h => h.rea (fun _ h => h) (by repeat (first | exact Rea.nil | (apply Rea.cons; (solve | (repeat (first | exact Del.here | apply Del.there)))))))
    rintro ⟨od, cd⟩ -
    dsimp only
    refine CW.freezeP (A := [_]) (B := [_, _, _]) (.take (.leave (.leave (.leave .nil)))) rfl ?_
    refine CW.genI (fun J hJ => ?_)
    have rC : RdsN J ⟨b1, 0, none⟩ 32 (bytes key) := ⟨fun _ => Rds.allI (hJ (cel b1 (bytes key) 23) (by simp)), hk32⟩
    clear hJ
    have hb1 : (bytes z.k).length = 32 := by rw [List.length_map, hk]
    refine CW.seq (CW.regionD (Sq.of [0, 1, 2, 3, 4, 5, 6, 7, 8, 9]) [6, 9] [6, 9] [0, 1, 2, 3, 4, 5, 7, 8] mixed (by kernel_rfl) ?_)
    refine RL.p rfl (RL.p rfl (RL.p rfl (RL.loadSTq Tryz.isAgg23 Tryz.sizeOf23 rfl rfl rfl rfl ?_)))
    refine RL.p rfl (RL.fieldAddr fa_114_1 rfl rfl rfl rfl (RL.storeX (vs := [_]) (set_riv B { z with bad := z.bad + (rOut iv z.c).length } tb tc iv) Tryz.sizeOf24 rfl rfl rfl rfl rfl rfl rfl rfl (by repeat (first | exact Upd.here | apply Upd.there)) (by rw [rr_len B (z := { z with bad := z.bad + (rOut iv z.c).length }) tb tc hk]; show 0 + 4 + 1 ≤ 41; decide) ?_))
    refine RL.p rfl (RL.fieldAddr fa_114_2 rfl rfl rfl rfl (RL.storeSeg (vs := bytes key) [.int .i64 B.s.st, .int .i64 B.s.ln, .int .i64 B.s.lg, .int .i64 B.s.of, .int .u32 (iv : Int)] (bytes z.k) [.pointer (some ⟨B.y, 0, none⟩), .int .i64 ((z.bad + (rOut iv z.c).length : Nat) : Int), .int .i64 (z.rel : Int), slO tb z.m.length tc] Tryz.sizeOf23 rfl rfl rfl rfl rfl rfl rfl (ones_map one8 _) rfl rfl rfl hb1 hk32 (by repeat (first | exact Upd.here | apply Upd.there)) ?_))
    refine RL.nil (NQ.seq (CW.ok [] rfl (CW.seq (CW.rg (RL.p rfl (RL.nil (NQ.seq (CW.ret ?_))))))))
    exact RQ.post (res1 rfl rfl) (.keep (.keep (.keep .nil))) ⟨0, _, od, cd, .yes h1', rfl, rfl, rfl⟩
end Go.Proofs.YtbdnebedmdoehaaGreat

namespace Go.Proofs.YtbdnebedmdoehaaGreat
open Go.PK
inductive RMessO (s : Sch) (iv : Nat) (t : Int) (R : Bq) (f : Fr) : Int → Bq → List It → Prop
  | tick (h : tickB t = false) : RMessO s iv t R f 2 R []
  | no {e : Int} (ht : tickB t = true) (h : msgE s iv t f = e) (h0 : e ≠ 0) : RMessO s iv t R f e R []
  | put {e : Int} {R' : Bq} {I' : List It} (ht : tickB t = true) (h : msgE s iv t f = 0) (hp : RPutO R (mP f) f e R' I') : RMessO s iv t R f e R' I'
def RMessR (B : RRk) (z : RSt) (t : Int) (f : Fr) : Value → List It → List It → Prop := fun v I' H' => ∃ e R' tb' tc' ob' cp', v = .int .i64 e ∧ RMessO B.s z.iv t z.c f e R' I' ∧ H' = [rrI B { z with m := bump e z.m } tb' tc', rtI tb' tc' (bump e z.m), rbufI B.y ob' R'.length cp', itmI ob' cp' R'.length R']
theorem rtmess_any (B : RRk) (z : RSt) (hz : z.Ok) (hml : z.m.length ≤ 1000000) (tb : Option Nat) (tc : Nat) (ob : Option Nat) (cp : Nat) (t : Int) (f : Fr) (q : Option Addr) (cc n : Nat) (hf : f.Ok) (hn : f.b.length = n) (hb : n ≤ 100000) :
    Spc Tryz.prog 57 #[.pointer (some ⟨B.b, 0, none⟩), .int .i64 t, .agg (f.cells (.slice q n cc)).toArray] [sls q 1 n (bytes f.b)] [rrI B z tb tc, rtI tb tc z.m, rbufI B.y ob z.c.length cp, itmI ob cp z.c.length z.c] (RMessR B z t f) := by
  subst hn
  have hfl := fr_len hf.tag (.slice q f.b.length cc)
  have hk := hz.k
  have hg := rgot_any 5 q f.b.length cc f.b rfl (by omega)
  rw [gotR5] at hg
  have hr : ∀ r : Rdg, r.cells.length = 57 := rdg_len
  refine Spc.enter Tryz.func57 rfl rfl rfl (fun w0 hw0 => ?_)
  refine CW.seq (CW.region (ef := [0]) (bk := []) (RL.box rfl rfl rfl rfl rfl rfl ?_))
  intro b1
  refine RL.p rfl (RL.nil (NQ.seq (CW.seq (CW.seq (CW.rg (RL.p rfl (RL.p rfl (RL.p rfl ?_))))))))
  apply RL.orB (d := 13) (dp := 16) (l' := (Sq.of [])) rfl (sK [0, 1, 5, 6] rfl)
  ·
    intro hb3 K3
    refine RL.p rfl (RL.p rfl (RL.p rfl ?_))
    exact K3 _ (.cons rfl (sK [0, 1, 5, 6] rfl))
  ·
    intro hb3 K3
    refine RL.p rfl (RL.p rfl (RL.p rfl ?_))
    exact K3 _ (.cons rfl (sK [0, 1, 5, 6] rfl))
  refine RL.nil (NQ.seq ?_)
  refine CW.cond rfl (fun h1 => ?_) (fun h1 => ?_)
  ·
    have h1' : tickB t = false := by simp at h1; simp [tickB]; omega
    refine CW.seq (CW.region (ef := [1]) (bk := [1]) (RL.p rfl (RL.call (rtell_any B z hk hz.m hml tb tc 2) Tryz.call74 rfl rfl rfl rfl rfl (by repeat (first | exact Pick.nil | apply Pick.take | apply Pick.leave)) .nil (.inr rfl) ?_)))
    rintro _ _ _ ⟨tb', tc', rfl, rfl, rfl⟩
    refine RL.p rfl (RL.nil (NQ.seq (CW.ret (RQ.seq ?_))))
    exact RQ.post (res1 rfl rfl) (.keep (.keep (.drop (.keep (.keep .nil))))) ⟨2, z.c, tb', tc', ob, cp, rfl, .tick h1', rfl⟩
  ·
    have h1' : tickB t = true := by simp at h1; simp [tickB]; omega
    by_cases h29 : f.b.length = 29
    · rw [if_pos h29] at hg
      have hsf := rssafe B.s t (mIv f) (mIv_lt f)
      rw [safe_v] at hsf
      refine CW.skip (NQ.seq (CW.seq (CW.region (ef := [6, 7]) (bk := [7]) (RL.fieldAddr fa_30_4 rfl rfl rfl rfl (RL.loadq Tryz.isAgg26 rfl rfl rfl rfl ?_)))))
      refine RL.callv (hg) Tryz.call23 rfl rfl rfl rfl (Lend.inI (by repeat (first | exact List.Mem.head _ | apply List.Mem.tail)) .nil) ?_
      refine RL.p rfl (RL.p rfl (RL.p rfl (RL.alloc Tryz.zeroValue68 rfl rfl rfl rfl rfl ?_)))
      intro b2
      refine RL.storeW Tryz.sizeOf68 rfl rfl rfl rfl rfl rfl rfl rfl (Upd.here) (rdg_len _) rfl (RL.p rfl (RL.nil (NQ.seq (CW.ok [0, 1, 5, 7, 8] rfl (CW.seq (CW.seq (CW.rg (RL.p rfl (RL.p rfl (RL.p rfl ?_))))))))))
      apply RL.orB (d := 27) (dp := 31) (l' := (Sq.of [7, 8, 9, 10, 11])) rfl (sK [0, 1, 5, 7] rfl)
      ·
        intro hb3 K3
        refine RL.fieldAddr fa_30_0 rfl rfl rfl rfl (RL.loadq Tryz.isAgg3 rfl rfl rfl rfl ?_)
        refine RL.p rfl (RL.p rfl ?_)
        exact K3 _ (.cons rfl (sK [0, 1, 5, 7] rfl))
      ·
        intro hb3 K3
        refine RL.p rfl (RL.p rfl (RL.p rfl (RL.p rfl ?_)))
        exact K3 _ (.cons rfl (sK [0, 1, 5, 7] rfl))
      refine RL.p rfl ?_
      apply RL.orB (d := 32) (dp := 36) (l' := (Sq.of [])) rfl (sK [0, 1, 5, 7] rfl)
      ·
        intro hb8 K8
        refine RL.fieldAddr fa_68_7 rfl rfl rfl rfl (RL.load Tryz.isAgg24 rfl rfl rfl rfl (Rd.get (List.Mem.head _) (rdg_iv _)) (RL.p rfl (RL.p rfl ?_)))
        exact K8 _ (.cons rfl (sK [0, 1, 5, 7] rfl))
      ·
        intro hb8 K8
        refine RL.p rfl (RL.p rfl (RL.p rfl (RL.p rfl ?_)))
        exact K8 _ (.cons rfl (sK [0, 1, 5, 7] rfl))
      refine RL.nil (NQ.seq ?_)
      refine CW.cond rfl (fun h2 => ?_) (fun h2 => ?_)
      ·
        have h2' : f.b.length ≠ 29 ∨ f.kd ≠ 5 ∨ mIv f = 0 := by
          right
          simp at h2
          rcases h2 with h | h
          · exact .inl h
          · exact .inr (by have : ((mIv f : Nat) : Int) = 0 := h; omega)
        refine CW.seq (CW.region (ef := [1]) (bk := [1]) (RL.p rfl (RL.call (rtell_any B z hk hz.m hml tb tc 120) Tryz.call74 rfl rfl rfl rfl rfl (by repeat (first | exact Pick.nil | apply Pick.take | apply Pick.leave)) .nil (.inr rfl) ?_)))
        rintro _ _ _ ⟨tb', tc', rfl, rfl, rfl⟩
        refine RL.p rfl (RL.nil (NQ.seq (CW.ret (RQ.seq ?_))))
        exact RQ.post (res1 rfl rfl) (.keep (.keep (.drop (.drop (.keep (.keep .nil)))))) ⟨120, z.c, tb', tc', ob, cp, rfl, .no h1' (msgE_kd h2') (by decide), rfl⟩
      ·
        have h2' : ¬ (f.b.length ≠ 29 ∨ f.kd ≠ 5 ∨ mIv f = 0) := by
          rintro (h | h | h)
          · exact h h29
          · simp [h] at h2
          · have : (getR 5 f.b).interval = 0 := by (show ((mIv f : Nat) : Int) = 0; omega)
            simp [this] at h2
        refine CW.skip (NQ.seq (CW.seq (CW.regionD (Sq.of [0, 1, 2, 3, 4, 5, 6, 7, 8, 9, 10, 11, 12]) [] [] [0, 1, 2, 4, 5, 8, 9, 10, 11, 12] mixed (by kernel_rfl) ?_)))
        refine RL.p rfl (RL.p rfl (RL.fieldAddr fa_114_0 rfl rfl rfl rfl (RL.loadN (vs := [_, _, _, _]) Tryz.isAgg60 Tryz.sizeOf60 rfl rfl rfl rfl (Rds.cel (List.Mem.tail _ (List.Mem.tail _ (List.Mem.head _))) (at_spec ⟨rfl, rfl, rfl, rfl, trivial⟩)) (RL.p rfl (RL.fieldAddr fa_68_7 rfl rfl rfl rfl (RL.load Tryz.isAgg24 rfl rfl rfl rfl (Rd.get (List.Mem.head _) (rdg_iv _)) (RL.callvq (hsf) Tryz.call24 rfl rfl rfl rfl ?_)))))))
        refine RL.p rfl (RL.p rfl (RL.p rfl (RL.p rfl (RL.p rfl (RL.nil (NQ.seq (CW.ok [0, 5, 7, 9] rfl (CW.seq (CW.seq (CW.regionD (Sq.of [0, 1, 2, 3, 4, 5, 6, 7, 8, 9, 10]) [] [] [0, 2, 3, 4, 6, 7, 8, 9, 10] mixed (by kernel_rfl) ?_))))))))))
        refine RL.fieldAddr fa_68_7 rfl rfl rfl rfl (RL.load Tryz.isAgg24 rfl rfl rfl rfl (Rd.get (List.Mem.head _) (rdg_iv _)) (RL.p rfl (RL.p rfl (RL.fieldAddr fa_114_1 rfl rfl rfl rfl (RL.load Tryz.isAgg24 rfl rfl rfl rfl (Rd.get (by repeat (first | exact List.Mem.head _ | apply List.Mem.tail)) (rr_iv B z tb tc)) ?_)))))
        refine RL.p rfl (RL.p rfl ?_)
        apply RL.orB (d := 57) (dp := 60) (l' := (Sq.of [])) rfl (sK [0, 5, 7] rfl)
        ·
          intro hb8 K8
          refine RL.p rfl (RL.p rfl (RL.p rfl ?_))
          exact K8 _ (.cons rfl (sK [0, 5, 7] rfl))
        ·
          intro hb8 K8
          refine RL.p rfl (RL.p rfl (RL.p rfl ?_))
          exact K8 _ (.cons rfl (sK [0, 5, 7] rfl))
        refine RL.nil (NQ.seq ?_)
        refine CW.cond rfl (fun h3 => ?_) (fun h3 => ?_)
        ·
          have h3' : mIv f ≤ z.iv ∨ safeB B.s t (mIv f) = false := by
            simp at h3
            rcases h3 with h | h
            · exact .inl (by have : ((mIv f : Nat) : Int) ≤ z.iv := h; omega)
            · exact .inr h
          refine CW.seq (CW.region (ef := [1]) (bk := [1]) (RL.p rfl (RL.call (rtell_any B z hk hz.m hml tb tc 210) Tryz.call74 rfl rfl rfl rfl rfl (by repeat (first | exact Pick.nil | apply Pick.take | apply Pick.leave)) .nil (.inr rfl) ?_)))
          rintro _ _ _ ⟨tb', tc', rfl, rfl, rfl⟩
          refine RL.p rfl (RL.nil (NQ.seq (CW.ret (RQ.seq ?_))))
          exact RQ.post (res1 rfl rfl) (.keep (.keep (.drop (.drop (.keep (.keep .nil)))))) ⟨210, z.c, tb', tc', ob, cp, rfl, .no h1' (msgE_lt h2' h3') (by decide), rfl⟩
        ·
          have h3' : ¬ (mIv f ≤ z.iv ∨ safeB B.s t (mIv f) = false) := by
            rintro (h | h)
            · have : (getR 5 f.b).interval ≤ (z.iv : Int) := by (show ((mIv f : Nat) : Int) ≤ z.iv; omega)
              simp [this] at h3
            · simp [h] at h3
          refine CW.skip (NQ.seq (CW.seq (CW.regionD (Sq.of [0, 1, 2, 3, 4, 5, 6, 7, 8, 9, 10, 11, 12, 13]) [11, 12] [11, 12] [0, 1, 2, 3, 5, 7, 9, 13] mixed (by kernel_rfl) ?_)))
          refine RL.p rfl (RL.p rfl (RL.p rfl (RL.fieldAddr fa_114_3 rfl rfl rfl rfl (RL.load Tryz.isAgg108 rfl rfl rfl rfl (Rd.get (by repeat (first | exact List.Mem.head _ | apply List.Mem.tail)) (rr_y B tb tc hk)) ?_))))
          refine RL.fieldAddr fa_68_7 rfl rfl rfl rfl (RL.load Tryz.isAgg24 rfl rfl rfl rfl (Rd.get (List.Mem.head _) (rdg_iv _)) (RL.fieldAddr fa_68_8 rfl rfl rfl rfl (RL.load Tryz.isAgg5 rfl rfl rfl rfl (Rd.get (List.Mem.head _) (rdg_sq _)) (RL.buildS [_, _] Tryz.zeroValue118 pl_118 rfl rfl rfl rfl rfl (RL.loadSq Tryz.isAgg30 Tryz.sizeOf30 rfl rfl rfl rfl ?_)))))
          refine RL.callf (brput_any B.y z.c ob cp (mP f) f q cc hf hb (fun x hx => hz.c x hx) hz.l) Tryz.call75 rfl rfl rfl rfl rfl (by repeat (first | exact Pick.nil | apply Pick.take | apply Pick.leave)) (Lend.inI (by repeat (first | exact List.Mem.head _ | apply List.Mem.tail)) .nil) (.inr rfl) ?_
          rintro _ _ _ ⟨e, R', oc, cd, rfl, hO, rfl⟩ hfr
          refine RL.call (rtell_any B z hk hz.m hml tb tc e) Tryz.call74 rfl rfl rfl rfl rfl (by repeat (first | exact Pick.nil | apply Pick.take | apply Pick.leave)) .nil (.inr rfl) ?_
          rintro _ _ _ ⟨tb', tc', rfl, rfl, rfl⟩
          refine RL.p rfl (RL.nil (NQ.seq (CW.ok [6] rfl (CW.ret ?_))))
          exact RQ.postF (res1 rfl rfl) (.keep (.keep (.keep (.keep (.drop (.drop .nil)))))) (fun x hx => by simp [hx]) hfr ⟨e, R', tb', tc', oc, cd, rfl, .put h1' (msgE_ok h2' h3') hO, rfl⟩
    ·
      rw [if_neg h29] at hg
      refine CW.skip (NQ.seq (CW.seq (CW.region (ef := [6, 7]) (bk := [7]) (RL.fieldAddr fa_30_4 rfl rfl rfl rfl (RL.loadq Tryz.isAgg26 rfl rfl rfl rfl ?_)))))
      refine RL.callv (hg) Tryz.call23 rfl rfl rfl rfl (Lend.inI (by repeat (first | exact List.Mem.head _ | apply List.Mem.tail)) .nil) ?_
      refine RL.p rfl (RL.p rfl (RL.p rfl (RL.alloc Tryz.zeroValue68 rfl rfl rfl rfl rfl ?_)))
      intro b2
      refine RL.storeW Tryz.sizeOf68 rfl rfl rfl rfl rfl rfl rfl rfl (Upd.here) (rdg_len _) rfl (RL.p rfl (RL.nil (NQ.seq (CW.ok [0, 1, 5, 7, 8] rfl (CW.seq (CW.seq (CW.rg (RL.p rfl (RL.p rfl (RL.p rfl (RL.cast (d := 27) (v' := .bool true) rfl (rfl) ?_)))))))))))
      refine RL.p rfl (RL.p rfl (RL.p rfl (RL.p rfl (RL.p rfl (RL.p rfl (RL.p rfl (RL.p rfl (RL.p rfl (RL.nil (NQ.seq (CW.ok [0, 1, 5, 7, 36] rfl (CW.condT rfl rfl (CW.seq ?_)))))))))))))
      refine CW.region (ef := [1]) (bk := [1]) (RL.p rfl (RL.call (rtell_any B z hk hz.m hml tb tc 120) Tryz.call74 rfl rfl rfl rfl rfl (by repeat (first | exact Pick.nil | apply Pick.take | apply Pick.leave)) .nil (.inr rfl) ?_))
      rintro _ _ _ ⟨tb', tc', rfl, rfl, rfl⟩
      refine RL.p rfl (RL.nil (NQ.seq (CW.ret (RQ.seq ?_))))
      exact RQ.post (res1 rfl rfl) (.keep (.keep (.drop (.drop (.keep (.keep .nil)))))) ⟨120, z.c, tb', tc', ob, cp, rfl, .no h1' (msgE_kd (.inl h29)) (by decide), rfl⟩
end Go.Proofs.YtbdnebedmdoehaaGreat

namespace Go.Proofs.YtbdnebedmdoehaaGreat
open Go.PK
inductive RDisO (z : RSt) (iv : Nat) (key : List B8) : Int → Bq → RSt → Prop
  | no {e : Int} (h : disE z iv key = e) (h0 : e ≠ 0) : RDisO z iv key e [] { z with m := bump e z.m }
  | yes (h : disE z iv key = 0) : RDisO z iv key 0 (rOut (iv : Int) z.c) (afterD z iv key (rOut (iv : Int) z.c) (rLeft (iv : Int) z.c))
def RDisR (B : RRk) (z : RSt) (iv : Nat) (key : List B8) : Value → List It → List It → Prop := fun v I' H' => ∃ e T z' oo oc tb tc ob cp, RDisO z iv key e T z' ∧ v = .tuple #[slO oo (relL key iv T).length oc, .int .i64 e] ∧ I' = [] ∧
  H' = [own oo oc 30 21 (relL key iv T).length ((relL key iv T).flatMap FrO.cells), rrI B z' tb tc, rtI tb tc z'.m, rbufI B.y ob z'.c.length cp, itmI ob cp z'.c.length z'.c]
theorem rr_k (B : RRk) (z : RSt) (tb : Option Nat) (tc : Nat) : ∀ (j : Nat) (u : Value), (bytes z.k)[j]? = some u → (rrC B z tb tc)[0 + 5 + j]? = some u := fun j u hj => by
  rw [rrC, show 0 + 5 + j = j + 1 + 1 + 1 + 1 + 1 by omega]
  simp only [List.getElem?_cons_succ]
  rw [List.getElem?_append_left (List.getElem?_eq_some_iff.1 hj).1]; exact hj
theorem fr_fld5 {f : Fr} (h : f.tag.length = 16) (sl : Value) (w : World) : (Instr.field 30 (.agg (f.cells sl).toArray) 5).run Tryz.prog w = .ok (.agg (bytes f.tag).toArray) w := by
  have h1 : List.take 16 (List.drop 5 (f.cells sl)) = bytes f.tag := by
    show List.take 16 (bytes f.tag) = _
    exact List.take_of_length_le (by rw [List.length_map, h]; decide)
  simp [Instr.field, asAgg, Program.fieldsOf, Go.part, go_sem, h1]
theorem rOut_mem {iv : Int} {R : Bq} : ∀ x ∈ rOut iv R, x ∈ R ∧ x.1.1 ≤ iv := fun x hx => ⟨(List.mem_filter.1 hx).1, by have := (List.mem_filter.1 hx).2; simpa [upTo] using this⟩
theorem rtdis_any (B : RRk) (z : RSt) (hz : z.Ok) (hml : z.m.length ≤ 1000000) (tb : Option Nat) (tc : Nat) (ob : Option Nat) (cp : Nat) (iv : Nat) (hiv : iv < 4294967296) (key : List B8) (hkey : key.length = 32) (hgt : ∀ x ∈ z.c, (z.iv : Int) < x.1.1) (I : List It) (hbo : ∀ x ∈ z.c, bodyO x.2 ∈ I) :
    Spc Tryz.prog 55 #[.pointer (some ⟨B.b, 0, none⟩), .int .u32 (iv : Int), .agg (bytes key).toArray] I [rrI B z tb tc, rtI tb tc z.m, rbufI B.y ob z.c.length cp, itmI ob cp z.c.length z.c] (RDisR B z iv key) := by
  have hk := hz.k
  have hziv := hz.iv
  have hzl := hz.l
  have hbad := hz.bad
  have hrel := hz.rel
  have hk32 : (bytes key).length = 32 := by rw [List.length_map, hkey]
  refine Spc.enter Tryz.func55 rfl rfl rfl (fun w0 hw0 => ?_)
  refine CW.seq (CW.region (ef := [0]) (bk := []) (RL.box rfl rfl rfl rfl rfl rfl ?_))
  intro b1
  refine RL.p rfl (RL.p rfl (RL.nil (NQ.seq (CW.seq (CW.seq (CW.rg (RL.p rfl (RL.p rfl (RL.p rfl (RL.fieldAddr fa_114_1 rfl rfl rfl rfl (RL.load Tryz.isAgg24 rfl rfl rfl rfl (Rd.get (by repeat (first | exact List.Mem.head _ | apply List.Mem.tail)) (rr_iv B z tb tc)) ?_)))))))))))
  refine RL.p rfl (RL.nil (NQ.seq (CW.ok [0, 1, 5, 6, 7, 21] rfl ?_)))
  refine CW.cond rfl (fun h1 => ?_) (fun h1 => ?_)
  ·
    have h1' : iv ≤ z.iv := by simp at h1; omega
    have hE : disE z iv key = 6 := if_pos h1'
    refine CW.ownNone (e := 30) 21 (CW.seq (CW.region (ef := [1]) (bk := [1]) (RL.p rfl (RL.call (rtell_any B z hk hz.m hml tb tc 6) Tryz.call74 rfl rfl rfl rfl rfl (by repeat (first | exact Pick.nil | apply Pick.take | apply Pick.leave)) .nil (.inr rfl) ?_))))
    rintro _ _ _ ⟨tb', tc', rfl, rfl, rfl⟩
    refine RL.p rfl (RL.p rfl (RL.nil (NQ.seq (CW.ret (RQ.seq (RQ.rea (fun _ h => h) (H' := [own none 0 30 21 0 [], rrI B { z with m := bump 6 z.m } tb' tc', rtI tb' tc' (bump 6 z.m), rbufI B.y ob z.c.length cp, itmI ob cp z.c.length z.c]) (by repeat (first | exact Rea.nil | (apply Rea.cons; (solve | (repeat (first | exact Del.here | apply Del.there)))))) ?_))))))
    exact RQ.post (res2 rfl rfl rfl) (.keep (.keep (.keep (.keep (.keep .nil))))) ⟨6, [], _, none, 0, tb', tc', ob, cp, .no hE (by decide), rfl, rfl, rfl⟩
  ·
    have h1' : ¬ iv ≤ z.iv := by simp at h1; omega
    have hsub : Value.int .u32 (IntKind.u32.wrap ((iv : Int) - (z.iv : Int))) = .int .u32 ((iv - z.iv : Nat) : Int) := by
      rw [show (iv : Int) - (z.iv : Int) = ((iv - z.iv : Nat) : Int) by omega]
      simp [IntKind.wrap, IntKind.bits, IntKind.signed]; omega
    have hcv : Value.int .i64 (IntKind.i64.wrap ((iv - z.iv : Nat) : Int)) = .int .i64 ((iv - z.iv : Nat) : Int) := wrapV_i64 (by omega) (by omega)
    generalize hd : iv - z.iv = d at *
    refine CW.skip (NQ.seq (CW.seq (CW.rg (RL.p rfl (RL.p rfl (RL.p rfl (RL.fieldAddr fa_114_1 rfl rfl rfl rfl (RL.load Tryz.isAgg24 rfl rfl rfl rfl (Rd.get (by repeat (first | exact List.Mem.head _ | apply List.Mem.tail)) (rr_iv B z tb tc)) ?_))))))))
    refine RL.p rfl (RL.cast (d := 29) rfl hsub ?_)
    refine RL.conv Tryz.runUnderlying24 Tryz.runUnderlying3 rfl rfl rfl rfl (RL.cast (d := 30) rfl hcv ?_)
    refine RL.p rfl (RL.nil (NQ.seq (CW.ok [0, 1, 5, 8] rfl (CW.seq (CW.seq (CW.rg (RL.p rfl (RL.p rfl (RL.nil (NQ.seq ?_))))))))))
    refine CW.cond rfl (fun h2 => ?_) (fun h2 => ?_)
    ·
      have h2' : 512 < iv - z.iv := by simp at h2; omega
      have hE : disE z iv key = 3 := by rw [disE, if_neg h1', if_pos h2']
      refine CW.ownNone (e := 30) 21 (CW.seq (CW.region (ef := [1]) (bk := [1]) (RL.p rfl (RL.call (rtell_any B z hk hz.m hml tb tc 3) Tryz.call74 rfl rfl rfl rfl rfl (by repeat (first | exact Pick.nil | apply Pick.take | apply Pick.leave)) .nil (.inr rfl) ?_))))
      rintro _ _ _ ⟨tb', tc', rfl, rfl, rfl⟩
      refine RL.p rfl (RL.p rfl (RL.nil (NQ.seq (CW.ret (RQ.seq (RQ.rea (fun _ h => h) (H' := [own none 0 30 21 0 [], rrI B { z with m := bump 3 z.m } tb' tc', rtI tb' tc' (bump 3 z.m), rbufI B.y ob z.c.length cp, itmI ob cp z.c.length z.c]) (by repeat (first | exact Rea.nil | (apply Rea.cons; (solve | (repeat (first | exact Del.here | apply Del.there)))))) ?_))))))
      exact RQ.post (res2 rfl rfl rfl) (.keep (.keep (.keep (.keep (.keep .nil))))) ⟨3, [], _, none, 0, tb', tc', ob, cp, .no hE (by decide), rfl, rfl, rfl⟩
    ·
      have h2' : ¬ 512 < iv - z.iv := by simp at h2; omega
      refine CW.skip (NQ.seq (CW.seq (CW.region (ef := [2]) (bk := [2]) (RL.loadSq Tryz.isAgg23 Tryz.sizeOf23 rfl rfl rfl rfl ?_))))
      refine RL.p rfl (RL.call (rall_ok key hkey d (by omega)) Tryz.call39 rfl rfl rfl rfl rfl (by repeat (first | exact Pick.nil | apply Pick.take | apply Pick.leave)) .nil (.inr rfl) ?_)
      rintro _ _ _ ⟨kb, kc, rfl, rfl, rfl⟩
      refine RL.p rfl (RL.p rfl (RL.p rfl (RL.p rfl (RL.p rfl (RL.nil (NQ.seq (CW.ok [0, 1, 5, 8, 9] rfl (CW.seq (CW.seq (CW.freezeP (A := [_, _]) (B := [_, _, _, _]) (.take (.take (.leave (.leave (.leave (.leave .nil)))))) rfl ?_))))))))))
      refine CW.genI (fun J hJ => ?_)
      have mK : own (some kb) kc 23 32 (d + 1) ((chainL key (d + 1)).flatMap bytes) ∈ J := hJ _ (List.Mem.head _)
      have mC : cel b1 (bytes key) 23 ∈ J := hJ _ (by simp)
      have mI : ∀ x ∈ I, x ∈ J := fun x hx => hJ x (by simp [hx])
      clear hJ
      have hKl := chainL_len key (d + 1)
      have hK32 := flatK_len (chainL_all hkey (d + 1))
      have hKd := chainL_get key (show d < d + 1 by omega)
      have hnk := nextN_len hkey d
      generalize hkx : nextN key d = kx at *
      have hkx32 : (bytes kx).length = 32 := by rw [List.length_map, hnk]
      have hzk32 : (bytes z.k).length = 32 := by rw [List.length_map, hk]
      refine CW.regionD (Sq.of [0, 1, 2, 3, 4, 5, 6, 7, 8]) [] [] [0, 1, 2, 4, 5, 6, 8] mixed (by kernel_rfl) ?_
      refine RL.p rfl (RL.p rfl (RL.idxAt (j := d) Tryz.runUnderlying39 Tryz.sizeOf23 rfl rfl rfl rfl rfl (by omega) (by omega) ?_))
      refine RL.loadA Tryz.isAgg23 Tryz.sizeOf23 rfl rfl rfl rfl (vs := bytes kx) (own_rdsI mK hKd hK32) hkx32 (RL.p rfl (RL.p rfl (RL.fieldAddr fa_114_2 rfl rfl rfl rfl (RL.loadA Tryz.isAgg23 Tryz.sizeOf23 rfl rfl rfl rfl (vs := bytes z.k) (Rds.cel (by repeat (first | exact List.Mem.head _ | apply List.Mem.tail)) (rr_k B z tb tc)) hzk32 ?_))))
      refine RL.cmp rfl rfl rfl rfl rfl (key_ne _ _ hnk hk _ _) (RL.nil (NQ.seq (CW.ok [0, 1, 5, 9, 49] rfl ?_)))
      refine CW.cond rfl (fun h3 => ?_) (fun h3 => ?_)
      ·
        have h3' : ¬ nextN key (iv - z.iv) = z.k := by rw [hd, hkx]; simpa using h3
        have hE : disE z iv key = 211 := by rw [disE, if_neg h1', if_neg h2', if_neg h3']
        refine CW.ownNone (e := 30) 21 (CW.seq (CW.region (ef := [1]) (bk := [1]) (RL.p rfl (RL.call (rtell_any B z hk hz.m hml tb tc 211) Tryz.call74 rfl rfl rfl rfl rfl (by repeat (first | exact Pick.nil | apply Pick.take | apply Pick.leave)) .nil (.inr rfl) ?_))))
        rintro _ _ _ ⟨tb', tc', rfl, rfl, rfl⟩
        refine RL.p rfl (RL.p rfl (RL.nil (NQ.seq (CW.ret (RQ.seq (RQ.rea (fun _ h => h) (H' := [own none 0 30 21 0 [], rrI B { z with m := bump 211 z.m } tb' tc', rtI tb' tc' (bump 211 z.m), rbufI B.y ob z.c.length cp, itmI ob cp z.c.length z.c]) (by repeat (first | exact Rea.nil | (apply Rea.cons; (solve | (repeat (first | exact Del.here | apply Del.there)))))) ?_))))))
        exact RQ.post (res2 rfl rfl rfl) (.keep (.keep (.keep (.keep (.keep .nil))))) ⟨211, [], _, none, 0, tb', tc', ob, cp, .no hE (by decide), rfl, rfl, rfl⟩
      ·
        have h3' : nextN key (iv - z.iv) = z.k := by rw [hd, hkx]; simpa using h3
        have h0 : disE z iv key = 0 := by rw [disE, if_neg h1', if_neg h2', if_pos h3']
        refine CW.skip (NQ.seq (CW.seq (CW.region (ef := [0]) (bk := []) (RL.buildOwn [] Tryz.runUnderlying51 Tryz.sizeOf30 Tryz.zeroValue30 rfl rfl (by decide) (by decide) rfl (by decide) rfl rfl rfl rfl rfl rfl ?_))))
        intro oq
        refine RL.p rfl (RL.nil (NQ.seq (CW.seq (CW.region (ef := [5]) (bk := [5]) (RL.p rfl (RL.p rfl (RL.fieldAddr fa_114_3 rfl rfl rfl rfl (RL.load Tryz.isAgg108 rfl rfl rfl rfl (Rd.get (by repeat (first | exact List.Mem.head _ | apply List.Mem.tail)) (rr_y B tb tc hk)) ?_))))))))
        refine RL.p rfl (RL.callq (brtake_any B.y z.c ob cp (iv : Int) (fun x hx => hz.c x hx) (by omega)) Tryz.call73 rfl rfl rfl rfl rfl (.inr rfl) ?_)
        rintro _ _ _ ⟨oi, ci, od, cd, rfl, rfl, rfl⟩
        have hTm := rOut_mem (iv := (iv : Int)) (R := z.c)
        have hTl := rOut_le (iv : Int) z.c
        have hcl := rLeft_le (iv : Int) z.c
        generalize hTe : rOut (iv : Int) z.c = T at *
        generalize hce : rLeft (iv : Int) z.c = c' at *
        have hTok : ∀ x ∈ T, x.2.Ok := fun x hx => hz.c x (hTm x hx).1
        have hT23 := itc_fm_len hTok
        refine RL.p rfl (RL.nil (NQ.seq (CW.ok [0, 1, 5, 9, 11, 12] rfl (CW.seq (CW.seq (CW.rg (RL.p rfl (RL.nil (NQ.seq (CW.block ?_))))))))))
        refine CW.fact (p := oi = none → T.length = 0) (fun w hC e => by subst e; exact own_none (hC.s.h (itmI none ci T.length T) (by repeat (first | exact List.Mem.head _ | apply List.Mem.tail)))) (fun hob => ?_)
        refine CW.freezeP (A := [_]) (B := [_, _, _, _, _]) (.take (.leave (.leave (.leave (.leave (.leave .nil)))))) rfl ?_
        refine CW.genI (fun J2 hJ2 => ?_)
        have mT : own oi ci 120 23 T.length (T.flatMap itc) ∈ J2 := hJ2 _ (by simp)
        have mJ : ∀ x ∈ J, x ∈ J2 := fun x hx => hJ2 x (by simp [hx])
        have mK2 := mJ _ mK
        have mC2 := mJ _ mC
        have mB : ∀ x ∈ T, bodyO x.2 ∈ J2 := fun x hx => mJ _ (mI _ (hbo x (hTm x hx).1))
        clear hJ2
        refine CW.loop (γ := Nat × Option Nat × Nat) (fun g => g.1 ≤ T.length) (fun g => [(0, .pointer (some ⟨B.b, 0, none⟩)), (1, .int .u32 (iv : Int)), (5, .pointer (some ⟨b1, 0, none⟩)), (9, slO (some kb) (d + 1) kc), (11, slO g.2.1 (relL key iv (T.take g.1)).length g.2.2), (12, slO oi T.length ci), (13, .int .i64 (g.1 : Int))])
          (fun _ => J2) (fun g => [own g.2.1 g.2.2 30 21 (relL key iv (T.take g.1)).length ((relL key iv (T.take g.1)).flatMap FrO.cells), rrI B { z with bad := z.bad + (g.1 - (relL key iv (T.take g.1)).length), rel := z.rel + (relL key iv (T.take g.1)).length } tb tc, rtI tb tc z.m, rbufI B.y od c'.length cd, itmI od cd c'.length c']) (fun g => T.length - g.1) (0, some oq, 0) (by show 0 ≤ _; omega)
          (.cons rfl (.cons rfl (.cons rfl (.cons rfl (.cons rfl (.cons rfl (.cons rfl .nil))))))) (fun w h => h.rea (fun _ h => h) (by repeat (first | exact Rea.nil | (apply Rea.cons; (solve | (repeat (first | exact Del.here | apply Del.there))))))) ?_
        rintro ⟨j, o, c⟩ hj
        dsimp only at hj ⊢
        have hrl := relL_le key iv (T.take j)
        rw [List.length_take, Nat.min_eq_left hj] at hrl
        generalize hR : relL key iv (T.take j) = R at *
        refine CW.seq (CW.seq (CW.rg (RL.p rfl (RL.p rfl (RL.lenS Tryz.runUnderlying109 rfl rfl rfl rfl (RL.p rfl (RL.nil (NQ.seq ?_))))))))
        refine CW.cond rfl (fun hlt => ?_) (fun hlt => ?_)
        ·
          have hlt : j < T.length := by simp at hlt; omega
          obtain ⟨tq, rfl⟩ : ∃ q, oi = some q := by
            cases oi with
            | none => exact absurd (hob rfl) (by omega)
            | some q => exact ⟨q, rfl⟩
          have hTj := List.getElem?_eq_getElem hlt
          have hx0 := List.getElem_mem hlt
          have htk : T.take (j + 1) = T.take j ++ [T[j]] := by rw [List.take_add_one, hTj]; rfl
          generalize T[j] = x at hTj hx0 htk
          have hxo := hTok x hx0
          have h23 := hT23 x hx0
          have hle := (hTm x hx0).2
          have hxg := hgt x (hTm x hx0).1
          have rx : ∀ H', Rds J2 H' ⟨tq, 0 + j * 23, none⟩ (itc x) := fun H' => own_rdsI mT hTj hT23
          obtain ⟨⟨p1, p2⟩, y⟩ := x
          dsimp only at hxo h23 hle hxg
          obtain ⟨p1, rfl⟩ : ∃ n : Nat, p1 = (n : Int) := ⟨p1.toNat, by omega⟩
          have hp : p1 ≤ iv := by omega
          have hKj := chainL_get key (show iv - p1 < d + 1 by omega)
          have hnj := nextN_len hkey (iv - p1)
          have rK : ∀ H', Rds J2 H' ⟨kb, 0 + (iv - p1) * 32, none⟩ (bytes (nextN key (iv - p1))) := fun H' => own_rdsI mK2 hKj hK32
          generalize hnx : nextN key (iv - p1) = kj at *
          have h21 := fro_len hxo
          have hp32 : p1 < 4294967296 := by omega
          have hkj32 : (bytes kj).length = 32 := by rw [List.length_map, hnj]
          have hsub2 : Value.int .u32 (IntKind.u32.wrap ((iv : Int) - (p1 : Int))) = .int .u32 ((iv - p1 : Nat) : Int) := by
            rw [show (iv : Int) - (p1 : Int) = ((iv - p1 : Nat) : Int) by omega]
            simp [IntKind.wrap, IntKind.bits, IntKind.signed]; omega
          have hcv2 : Value.int .i64 (IntKind.i64.wrap ((iv - p1 : Nat) : Int)) = .int .i64 ((iv - p1 : Nat) : Int) := wrapV_i64 (by omega) (by omega)
          refine CW.skip (NQ.seq (CW.seq (CW.block (CW.seq (CW.region (ef := [5, 6]) (bk := [6]) (RL.p rfl (RL.p rfl (RL.idxAt (j := j) Tryz.runUnderlying109 Tryz.sizeOf120 rfl rfl rfl rfl rfl rfl (hlt) (RL.fieldAddr fa_120_1 rfl rfl rfl rfl (RL.loadA Tryz.isAgg30 Tryz.sizeOf30 rfl rfl rfl rfl (vs := y.cells) (Rds.itF (rx _)) h21 (RL.alloc Tryz.zeroValue30 rfl rfl rfl rfl rfl ?_)))))))))))
          intro b2
          refine RL.storeW Tryz.sizeOf30 rfl rfl rfl rfl rfl rfl rfl (ones_fr _ rfl) (by repeat (first | exact Upd.here | apply Upd.there)) h21 rfl ?_
          refine RL.nil (NQ.seq (CW.ok [0, 1, 5, 9, 11, 12, 13, 14] rfl (CW.seq (CW.rg (RL.p rfl (RL.p rfl (RL.idxAt (j := j) Tryz.runUnderlying109 Tryz.sizeOf120 rfl rfl rfl rfl rfl rfl (hlt) (RL.fieldAddr fa_120_0 rfl rfl rfl rfl (RL.fieldAddr fa_118_0 rfl rfl rfl rfl (RL.load Tryz.isAgg24 rfl rfl rfl rfl (Rds.it0 (rx _)) (RL.p rfl (RL.nil (NQ.seq ?_)))))))))))))
          refine CW.ok [0, 1, 5, 9, 11, 12, 13, 14, 15] rfl (CW.seq (CW.freezeP (A := [_]) (B := [_, _, _, _, _]) (.take (.leave (.leave (.leave (.leave (.leave .nil)))))) rfl ?_))
          refine CW.genI (fun J3 hJ3 => ?_)
          have mY : cel b2 y.cells 30 ∈ J3 := hJ3 _ (by simp)
          have mJ3 : ∀ x ∈ J2, x ∈ J3 := fun x hx => hJ3 x (by simp [hx])
          clear hJ3
          have rY : RdsN J3 ⟨b2, 0, none⟩ 21 y.cells := ⟨fun _ => Rds.allI mY, h21⟩
          have rT : RdsN J3 ⟨b2, 0 + 5, none⟩ 16 (bytes y.f.tag) := RdsN.told mY (fr_tag y.f _) (by rw [List.length_map, hxo.f.tag])
          have rK3 : RdsN J3 ⟨kb, 0 + (iv - p1) * 32, none⟩ 32 (bytes kj) := ⟨fun H' => own_rdsI (mJ3 _ mK2) (by rw [hKj]) hK32, hkj32⟩
          have hbd : (rrC B { z with bad := z.bad + (j - R.length), rel := z.rel + R.length } tb tc)[0 + 38]? = some (.int .i64 ((z.bad + (j - R.length) : Nat) : Int)) := rr_bad B (z := { z with bad := z.bad + (j - R.length), rel := z.rel + R.length }) tb tc hk
          have hrd : (rrC B { z with bad := z.bad + (j - R.length), rel := z.rel + R.length } tb tc)[0 + 39]? = some (.int .i64 ((z.rel + R.length : Nat) : Int)) := rr_rel B (z := { z with bad := z.bad + (j - R.length), rel := z.rel + R.length }) tb tc hk
          refine CW.regionD (Sq.of [0, 1, 2, 3, 4, 5, 6, 7, 8, 9, 10, 11, 12, 13]) [] [] [0, 1, 2, 3, 4, 5, 7, 10, 11, 13] mixed (by kernel_rfl) ?_
          refine RL.p rfl (RL.p rfl (RL.p rfl (RL.p rfl (RL.cast (d := 79) rfl hsub2 ?_))))
          refine RL.conv Tryz.runUnderlying24 Tryz.runUnderlying3 rfl rfl rfl rfl (RL.cast (d := 80) rfl hcv2 ?_)
          refine RL.idxAt (j := iv - p1) Tryz.runUnderlying39 Tryz.sizeOf23 rfl rfl rfl rfl rfl (by omega) (by omega) ?_
          refine RL.loadSq Tryz.isAgg23 Tryz.sizeOf23 rfl rfl rfl rfl ?_
          refine RL.p rfl (RL.loadSq Tryz.isAgg30 Tryz.sizeOf30 rfl rfl rfl rfl ?_)
          refine RL.callv (rtsign_any kj p1 y.f (y.ob.map fun b => ⟨b, 0, none⟩) y.cp y.f.b.length hnj hp32 hxo.f rfl (by have := hxo.b; omega)) Tryz.call11 rfl rfl rfl rfl (Lend.ownI (mJ3 _ (mB _ hx0)) .nil) ?_
          refine RL.field (v := .agg (bytes (y.f.tsign kj p1).tag).toArray) (fun w => fr_fld5 (y.f.tsign_ok hxo.f kj p1).tag _ w) rfl rfl rfl rfl ?_
          refine RL.fieldAddr fa_30_5 rfl rfl rfl rfl (RL.loadSq Tryz.isAgg28 Tryz.sizeOf28 rfl rfl rfl rfl ?_)
          refine RL.cmp rfl rfl rfl rfl rfl (tag_eq _ _ (y.f.tsign_ok hxo.f kj p1).tag hxo.f.tag _ _) (RL.nil (NQ.seq (CW.ok [0, 1, 5, 9, 11, 12, 13, 14, 89] rfl ?_)))
          refine CW.cond rfl (fun hg => ?_) (fun hg => ?_)
          ·
            have hok : okIt key iv (((p1 : Int), p2), y) = true := by
              show (y.f.tag == macTag (tagK (nextN key (iv - (p1 : Int).toNat)) (p1 : Int).toNat) y.f.signed) = true
              rw [Int.toNat_natCast, hnx]
              have hg' : macTag (tagK kj p1) y.f.signed = y.f.tag := by simpa [Fr.tsign] using hg
              rw [hg']; exact beq_self_eq_true _
            have hR' : relL key iv (T.take (j + 1)) = R ++ [y] := by rw [htk, relL_snoc, hR, hok]; rfl
            refine CW.seq (CW.region (ef := [2, 3]) (bk := [3]) (RL.p rfl (RL.loadSq Tryz.isAgg30 Tryz.sizeOf30 rfl rfl rfl rfl ?_)))
            refine RL.buildSlice y.cells Tryz.runUnderlying51 Tryz.sizeOf30 Tryz.zeroValue30 rfl rfl (by decide) (by decide) rfl rfl rfl rfl rfl (fill_one21 h21 rfl) ?_
            intro b3
            refine RL.appendA el_51 rfl rfl rfl rfl rfl rfl rfl (by first | exact ⟨(.take (Pick.none _)), rfl⟩ | exact ⟨(.leave (.take (Pick.none _))), rfl⟩ | exact ⟨(.leave (.leave (.take (Pick.none _)))), rfl⟩ | exact ⟨(.leave (.leave (.leave (.take (Pick.none _))))), rfl⟩ | exact ⟨(.leave (.leave (.leave (.leave (.take (Pick.none _)))))), rfl⟩ | exact ⟨(.leave (.leave (.leave (.leave (.leave (.take (Pick.none _))))))), rfl⟩ | exact ⟨(.leave (.leave (.leave (.leave (.leave (.leave (.take (Pick.none _)))))))), rfl⟩ | exact ⟨(.leave (.leave (.leave (.leave (.leave (.leave (.leave (.take (Pick.none _))))))))), rfl⟩ | exact ⟨(.leave (.leave (.leave (.leave (.leave (.leave (.leave (.leave (.take (Pick.none _)))))))))), rfl⟩ | exact ⟨(.leave (.leave (.leave (.leave (.leave (.leave (.leave (.leave (.leave (.take (Pick.none _))))))))))), rfl⟩) (Src.cel (List.Mem.head _) h21) (fun u hu => ones_spec (ones_fro y) u hu) (by first | omega | (simp only [maxLen]; omega)) (by first | omega | (simp only [maxLen]; omega)) ?_
            intro ob1 cap1 ho1
            refine RL.p rfl (RL.nil (NQ.seq (CW.ok [0, 1, 5, 9, 11, 12, 13] rfl (CW.region (ef := [7]) (bk := [7]) (RL.p rfl (RL.p rfl (RL.fieldAddr fa_114_5 rfl rfl rfl rfl (RL.load Tryz.isAgg3 rfl rfl rfl rfl (Rd.get (by repeat (first | exact List.Mem.head _ | apply List.Mem.tail)) hrd) ?_))))))))
            refine RL.bx rfl (wrapV_i64 (by omega) (by omega)) ?_
            refine RL.p rfl (RL.fieldAddr fa_114_5 rfl rfl rfl rfl (RL.storeX (vs := [_]) (set_rrel B (z := { z with bad := z.bad + (j - R.length), rel := z.rel + R.length }) hk tb tc (n := z.rel + R.length + 1) (by omega)) Tryz.sizeOf3 rfl rfl rfl rfl rfl rfl rfl rfl (by repeat (first | exact Upd.here | apply Upd.there)) (by rw [rr_len B (z := { z with bad := z.bad + (j - R.length), rel := z.rel + R.length }) tb tc hk]; show 0 + 39 + 1 ≤ 41; decide) ?_))
            refine RL.nil (NQ.block (NQ.seq (CW.ok [0, 1, 5, 9, 11, 12, 13] rfl (CW.rg (RL.p rfl (RL.bx rfl (wrapV_i64 (by omega) (by omega)) ?_))))))
            refine RL.p rfl (RL.nil ?_)
            refine NQ.round (g := (j, o, c)) (j + 1, ob1, cap1) hlt (by show T.length - (j + 1) < T.length - j; omega) (.cons rfl (.cons rfl (.cons rfl (.cons rfl (.cons (by dsimp only; rw [hR', List.length_append]; rfl) (.cons rfl (.cons rfl .nil))))))) (fun w h => ?_)
            dsimp only
            rw [hR', List.length_append, List.flatMap_append, show z.bad + (j + 1 - (R.length + [y].length)) = z.bad + (j - R.length) by simp, show [y].flatMap FrO.cells = y.cells by simp]
            exact h.rea mJ3 (by repeat (first | exact Rea.nil | (apply Rea.cons; (solve | (repeat (first | exact Del.here | apply Del.there))))))
          ·
            have hok : okIt key iv (((p1 : Int), p2), y) = false := by
              show (y.f.tag == macTag (tagK (nextN key (iv - (p1 : Int).toNat)) (p1 : Int).toNat) y.f.signed) = false
              rw [Int.toNat_natCast, hnx]
              have hg' : ¬ macTag (tagK kj p1) y.f.signed = y.f.tag := by simpa [Fr.tsign] using hg
              exact beq_eq_false_iff_ne.2 (fun e => hg' e.symm)
            have hR' : relL key iv (T.take (j + 1)) = R := by rw [htk, relL_snoc, hR, hok]; rfl
            refine CW.region (ef := [7]) (bk := [7]) (RL.p rfl (RL.p rfl (RL.fieldAddr fa_114_4 rfl rfl rfl rfl (RL.load Tryz.isAgg3 rfl rfl rfl rfl (Rd.get (by repeat (first | exact List.Mem.head _ | apply List.Mem.tail)) hbd) ?_))))
            refine RL.bx rfl (wrapV_i64 (by omega) (by omega)) ?_
            refine RL.p rfl (RL.fieldAddr fa_114_4 rfl rfl rfl rfl (RL.storeX (vs := [_]) (set_rbad B (z := { z with bad := z.bad + (j - R.length), rel := z.rel + R.length }) hk tb tc (n := z.bad + (j - R.length) + 1) (by omega)) Tryz.sizeOf3 rfl rfl rfl rfl rfl rfl rfl rfl (by repeat (first | exact Upd.here | apply Upd.there)) (by rw [rr_len B (z := { z with bad := z.bad + (j - R.length), rel := z.rel + R.length }) tb tc hk]; show 0 + 38 + 1 ≤ 41; decide) ?_))
            refine RL.nil (NQ.block (NQ.seq (CW.ok [0, 1, 5, 9, 11, 12, 13] rfl (CW.rg (RL.p rfl (RL.bx rfl (wrapV_i64 (by omega) (by omega)) ?_))))))
            refine RL.p rfl (RL.nil ?_)
            refine NQ.round (g := (j, o, c)) (j + 1, o, c) hlt (by show T.length - (j + 1) < T.length - j; omega) (.cons rfl (.cons rfl (.cons rfl (.cons rfl (.cons (by dsimp only; rw [hR']; rfl) (.cons rfl (.cons rfl .nil))))))) (fun w h => ?_)
            dsimp only
            rw [hR', show z.bad + (j + 1 - R.length) = z.bad + (j - R.length) + 1 by omega]
            exact h.rea mJ3 (by repeat (first | exact Rea.nil | (apply Rea.cons; (solve | (repeat (first | exact Del.here | apply Del.there))))))
        ·
          have hjT : j = T.length := by simp at hlt; omega
          subst hjT
          rw [List.take_length] at hR
          subst hR
          have rC : RdsN J2 ⟨b1, 0, none⟩ 32 (bytes key) := ⟨fun _ => Rds.allI mC2, hk32⟩
          have hb1 : (bytes z.k).length = 32 := by rw [List.length_map, hk]
          generalize hR : relL key iv T = R at *
          refine CW.exit (XQ.seq (XQ.seq (XQ.hit (NQ.seq (CW.ok [0, 1, 5, 11] rfl (CW.seq (CW.regionD (Sq.of [0, 1, 2, 3, 4, 5, 6, 7, 8, 9]) [6, 9] [6, 9] [0, 1, 2, 3, 4, 5, 7, 8] mixed (by kernel_rfl) ?_)))))))
          refine RL.p rfl (RL.p rfl (RL.p rfl (RL.loadSTq Tryz.isAgg23 Tryz.sizeOf23 rfl rfl rfl rfl ?_)))
          refine RL.p rfl (RL.fieldAddr fa_114_1 rfl rfl rfl rfl (RL.storeX (vs := [_]) (set_riv B { z with bad := z.bad + (T.length - R.length), rel := z.rel + R.length } tb tc iv) Tryz.sizeOf24 rfl rfl rfl rfl rfl rfl rfl rfl (by repeat (first | exact Upd.here | apply Upd.there)) (by rw [rr_len B (z := { z with bad := z.bad + (T.length - R.length), rel := z.rel + R.length }) tb tc hk]; show 0 + 4 + 1 ≤ 41; decide) ?_))
          refine RL.p rfl (RL.fieldAddr fa_114_2 rfl rfl rfl rfl (RL.storeSeg (vs := bytes key) [.int .i64 B.s.st, .int .i64 B.s.ln, .int .i64 B.s.lg, .int .i64 B.s.of, .int .u32 (iv : Int)] (bytes z.k) [.pointer (some ⟨B.y, 0, none⟩), .int .i64 ((z.bad + (T.length - R.length) : Nat) : Int), .int .i64 ((z.rel + R.length : Nat) : Int), slO tb z.m.length tc] Tryz.sizeOf23 rfl rfl rfl rfl rfl rfl rfl (ones_map one8 _) rfl rfl rfl hb1 hk32 (by repeat (first | exact Upd.here | apply Upd.there)) ?_))
          refine RL.nil (NQ.seq (CW.ok [0, 11] rfl (CW.seq (CW.region (ef := [2]) (bk := [2]) (RL.p rfl (RL.p rfl (RL.call (rtell_any B ⟨iv, key, z.bad + (T.length - R.length), z.rel + R.length, c', z.m⟩ hkey hz.m hml tb tc 0) Tryz.call74 rfl rfl rfl rfl rfl (by repeat (first | exact Pick.nil | apply Pick.take | apply Pick.leave)) .nil (.inr rfl) ?_)))))))
          rintro _ _ _ ⟨tb', tc', rfl, rfl, rfl⟩
          refine RL.p rfl (RL.p rfl (RL.nil (NQ.seq (CW.ret (RQ.rea (fun _ h => h) (H' := [own o c 30 21 R.length (R.flatMap FrO.cells), rrI B ⟨iv, key, z.bad + (T.length - R.length), z.rel + R.length, c', bump 0 z.m⟩ tb' tc', rtI tb' tc' (bump 0 z.m), rbufI B.y od c'.length cd, itmI od cd c'.length c']) (by repeat (first | exact Rea.nil | (apply Rea.cons; (solve | (repeat (first | exact Del.here | apply Del.there)))))) ?_)))))
          subst hR
          subst hTe
          subst hce
          exact RQ.post (res2 rfl rfl rfl) (.keep (.keep (.keep (.keep (.keep .nil))))) ⟨0, _, _, o, c, tb', tc', od, cd, .yes h0, rfl, rfl, rfl⟩
end Go.Proofs.YtbdnebedmdoehaaGreat
