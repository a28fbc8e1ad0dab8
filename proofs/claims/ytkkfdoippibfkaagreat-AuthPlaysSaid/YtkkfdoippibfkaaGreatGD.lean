import Derived.Test.YtkkfdoippibfkaaGreatGC
import Derived.Test.YtkkfdoippibfkaaGreatAC
namespace Go.Proofs.YtkkfdoippibfkaaGreat
open Go.PK

/-! ### The frame that is shown -/
theorem a19_fr {a : Act19} (h : a.Ok) : ∀ (j : Nat) (u : Value), (a.x.f.cells a.x.sl)[j]? = some u → a.cells[0 + 4 + j]? = some u := fun j u hj => by
  have hlt := (List.getElem?_eq_some_iff.1 hj).1
  rw [show 0 + 4 + j = j + 1 + 1 + 1 + 1 by omega, Act19.cells, List.getElem?_cons_succ, List.getElem?_cons_succ, List.getElem?_cons_succ, List.getElem?_cons_succ, List.getElem?_append_left hlt]; exact hj
theorem a19_at {a : Act19} (h : a.Ok) (k : Nat) : a.cells[0 + 25 + k]? = [Value.bool a.sg, .bool a.nr, U8 a.tu, .int .u32 (a.e : Int), .int .u32 (a.m.1 : Int), .int .u64 (a.m.2 : Int), .slice a.ks.p a.ks.l.length a.ks.c][k]? := by
  have hl := fr_len h.x.f.tag a.x.sl
  rw [show 0 + 25 + k = (21 + k) + 1 + 1 + 1 + 1 by omega, Act19.cells, List.getElem?_cons_succ, List.getElem?_cons_succ, List.getElem?_cons_succ, List.getElem?_cons_succ, List.getElem?_append_right (by omega), hl]
  congr 1; omega
theorem a19_mk {a : Act19} (h : a.Ok) : ∀ (j : Nat) (u : Value), [Value.int .u32 (a.m.1 : Int), .int .u64 (a.m.2 : Int)][j]? = some u → a.cells[0 + 29 + j]? = some u := fun j u hj => by
  have hlt := (List.getElem?_eq_some_iff.1 hj).1
  rw [show 0 + 29 + j = 0 + 25 + (4 + j) by omega, a19_at h]
  match j, hlt with
  | 0, _ => exact hj
  | 1, _ => exact hj
def rootK (s : Int) : List B8 := BitVec.ofInt 8 s :: 9#8 :: List.replicate 30 0#8
theorem rootK_len (s : Int) : (rootK s).length = 32 := by simp [rootK]
def turnF (f : Fr) (u : B8) : Fr := { f with tag := f.tag.set 0 (f.tag.getD 0 0 ^^^ u) }
def shF (a : Act19) : Fr := if a.sg = true then turnF ((a.x.f.few 60).sign (rootK a.x.f.sr)) a.tu else a.x.f.few 60
theorem turnF_ok {f : Fr} (h : f.Ok) (u : B8) : (turnF f u).Ok := ⟨h.ep, h.ct, by simp [turnF, h.tag]⟩
theorem few_ok {f : Fr} (h : f.Ok) (m : Nat) : (f.few m).Ok := ⟨h.ep, h.ct, h.tag⟩
theorem shF_ok {a : Act19} (h : a.Ok) : (shF a).Ok := by
  unfold shF
  split
  · exact turnF_ok (Fr.sign_ok (few_ok h.x.f 60) _) _
  · exact few_ok h.x.f 60
theorem shF_b (a : Act19) : (shF a).b = a.x.f.b.take 60 := by
  unfold shF
  split <;> rfl
theorem turn_st {f : Fr} (hf : f.Ok) (u : B8) (sl : Value) : spl (f.cells sl) (0 + 5 + 0 * 1) [U8 (f.tag.getD 0 0 ^^^ u)] = (turnF f u).cells sl := by
  have ht := hf.tag
  obtain ⟨x, r, e⟩ : ∃ x r, f.tag = x :: r := by
    cases h : f.tag with
    | nil => rw [h] at ht; simp at ht
    | cons x r => exact ⟨x, r, rfl⟩
  rw [spl_set (by rw [fr_len ht]; omega)]
  simp [Fr.cells, turnF, e]
theorem turn_at {f : Fr} (hf : f.Ok) (sl : Value) : (f.cells sl)[0 + 5 + 0 * 1]? = some (U8 (f.tag.getD 0 0)) := by
  have ht := hf.tag
  obtain ⟨x, r, e⟩ : ∃ x r, f.tag = x :: r := by
    cases h : f.tag with
    | nil => rw [h] at ht; simp at ht
    | cons x r => exact ⟨x, r, rfl⟩
  simp [Fr.cells, e]
theorem root_any (s : Int) : Spc Tryz.prog 17 #[.int .i64 s] [] [] (Is (.agg (bytes (rootK s)).toArray)) := by
  have hl := rootK_len s
  refine Spc.enter Tryz.func17 rfl rfl rfl (fun w0 hw0 => ?_)
  refine CW.seq ?_
  refine CW.region (ef := [0]) (bk := []) ?_
  refine RL.alloc (cs := List.replicate 32 (U8 0#8)) Tryz.zeroValue56 rfl rfl rfl rfl rfl ?_
  intro b1
  refine RL.nil ?_
  refine NQ.seq ?_
  refine CW.seq ?_
  refine CW.region (ef := [3]) (bk := [3]) ?_
  refine RL.move rfl rfl rfl rfl ?_
  refine RL.lowest Tryz.runUnderlying3 Tryz.runUnderlying5 rfl rfl rfl rfl ?_
  refine RL.buildA (bytes (rootK s)) Tryz.zeroValue56 Tryz.runUnderlying56 Tryz.sizeOf5 rfl rfl rfl rfl rfl ?_
  refine RL.storeW Tryz.sizeOf56 rfl rfl rfl rfl rfl rfl rfl (by first | rfl | exact ones_map one8 _ | exact ones_map (fun _ => rfl) _) (by repeat (first | exact Upd.here | apply Upd.there)) (by first | rfl | assumption | (simp only [List.length_map]; assumption) | (simp only [List.length_map, List.length_replicate, hl]; done) | (simp; done)) (by first | rfl | assumption | (simp only [List.length_map]; assumption) | (simp only [List.length_map, List.length_replicate, hl]; done) | (simp; done)) ?_
  refine RL.nil ?_
  refine NQ.seq ?_
  refine CW.ret ?_
  exact RQ.post (resW rfl rfl Tryz.isAgg56 Tryz.sizeOf56 (by repeat (first | exact List.Mem.head _ | apply List.Mem.tail)) (by rw [List.length_map, hl])) (Split.none _) ⟨rfl, rfl, rfl⟩
theorem shown_any (a : Act19) (ha : a.Ok) : Spc Tryz.prog 13 #[.agg a.cells.toArray] [sls a.x.p 1 a.x.f.b.length (bytes a.x.f.b)] [] (FewR (shF a) (min a.x.f.b.length 60)) := by
  have hl := act19_len ha
  have hfl := fr_len ha.x.f.tag a.x.sl
  refine Spc.enter Tryz.func13 rfl rfl rfl (fun w0 hw0 => ?_)
  refine CW.seq ?_
  refine CW.region (ef := [0, 1]) (bk := []) ?_
  refine RL.box rfl rfl rfl rfl rfl rfl ?_
  intro b1
  refine RL.alloc Tryz.zeroValue38 rfl rfl rfl rfl rfl ?_
  intro b2
  refine RL.nil ?_
  refine NQ.seq ?_
  refine CW.seq ?_
  refine CW.freezeP (A := [_]) (B := [_]) (.leave (.take .nil)) rfl ?_
  generalize hJ : ([cel b1 a.cells 43] ++ [sls a.x.p 1 a.x.f.b.length (bytes a.x.f.b)] : List It) = J
  have m1 : cel b1 a.cells 43 ∈ J := by rw [← hJ]; exact (by repeat (first | exact List.Mem.head _ | apply List.Mem.tail))
  have m2 : sls a.x.p 1 a.x.f.b.length (bytes a.x.f.b) ∈ J := by rw [← hJ]; exact (by repeat (first | exact List.Mem.head _ | apply List.Mem.tail))
  have f3 : RdsN J ⟨b1, 0 + 4, none⟩ 21 (a.x.f.cells a.x.sl) := RdsN.told m1 (a19_fr ha) hfl
  have f4 : RdI J ⟨b1, 0 + 25, none⟩ (.bool a.sg) := ⟨fun _ => Rd.getI m1 (a19_at ha 0)⟩
  have f5 : RdI J ⟨b1, 0 + 27, none⟩ (U8 a.tu) := ⟨fun _ => Rd.getI m1 (a19_at ha 2)⟩
  clear hJ
  have hf2 := few_ok ha.x.f 60
  have hb2 : (a.x.f.few 60).b.length = min a.x.f.b.length 60 := by show (a.x.f.b.take 60).length = _; rw [List.length_take]; omega
  have hl2 : ∀ sl, ((a.x.f.few 60).cells sl).length = 21 := fun sl => fr_len hf2.tag sl
  refine CW.region (ef := [2, 3, 4]) (bk := [4]) ?_
  refine RL.fieldAddr fa_43_4 rfl rfl rfl rfl ?_
  first | refine RL.loadM Tryz.isAgg38 Tryz.sizeOf38 rfl rfl rfl rfl (by assumption) ?_ | refine RL.loadA Tryz.isAgg38 Tryz.sizeOf38 rfl rfl rfl rfl (by first | assumption | (apply RdsI.rds; assumption)) (by first | rfl | assumption | (simp only [List.length_map]; assumption) | (simp only [List.length_map, List.length_replicate, hl, hfl]; done) | (simp; done)) ?_ | refine RL.loadW Tryz.isAgg38 Tryz.sizeOf38 rfl rfl rfl rfl (by (solve | (repeat (first | exact List.Mem.head _ | apply List.Mem.tail)))) (by first | rfl | assumption | (simp only [List.length_map]; assumption) | (simp only [List.length_map, List.length_replicate, hl, hfl]; done) | (simp; done)) ?_
  refine RL.call (few19_any a.x.f a.x.p a.x.c a.x.f.b.length ha.x.f rfl ha.x.c ha.x.b) Tryz.call19 rfl rfl rfl rfl rfl (by repeat (first | exact Pick.nil | apply Pick.take | apply Pick.leave)) (.inI m2 .nil) (.inl rfl) ?_
  rintro _ _ _ ⟨ob1, cap1, rfl, rfl, rfl, ho1⟩
  refine RL.alloc Tryz.zeroValue38 rfl rfl rfl rfl rfl ?_
  intro b3
  refine RL.storeW (vs := (a.x.f.few 60).cells (slO ob1 (min a.x.f.b.length 60) cap1)) Tryz.sizeOf38 rfl rfl rfl rfl rfl rfl rfl (ones_fr _ rfl) (by repeat (first | exact Upd.here | apply Upd.there)) (hl2 _) rfl ?_
  refine RL.nil ?_
  refine NQ.seq ?_
  refine CW.seq ?_
  refine CW.seq ?_
  refine CW.region (ef := []) (bk := []) ?_
  refine RL.fieldAddr fa_43_5 rfl rfl rfl rfl ?_
  refine RL.loadq Tryz.isAgg4 rfl rfl rfl rfl ?_
  refine RL.nil ?_
  refine NQ.seq ?_
  have hl2 := fr_len hf2.tag (slO ob1 (min a.x.f.b.length 60) cap1)
  refine CW.cond rfl (fun hs => ?_) (fun hs => ?_)
  ·
    have hS : shF a = turnF ((a.x.f.few 60).sign (rootK a.x.f.sr)) a.tu := by rw [shF, if_pos hs]
    have hf3 : ((a.x.f.few 60).sign (rootK a.x.f.sr)).Ok := Fr.sign_ok hf2 _
    have hl3 := fr_len hf3.tag (slO ob1 (min a.x.f.b.length 60) cap1)
    have hf4 := turnF_ok hf3 a.tu
    have hl4 := fr_len hf4.tag (slO ob1 (min a.x.f.b.length 60) cap1)
    have gq := turn_at hf3 (slO ob1 (min a.x.f.b.length 60) cap1)
    have gs := turn_st hf3 a.tu (slO ob1 (min a.x.f.b.length 60) cap1)
    rw [hS]
    refine CW.seq ?_
    refine CW.regionD (Sq.of [0, 1, 2, 3, 4, 5]) [5] [5] [0, 2] mixed (by kernel_rfl) ?_
    refine RL.fieldAddr fa_38_1 rfl rfl rfl rfl ?_
    refine RL.loadq Tryz.isAgg3 rfl rfl rfl rfl ?_
    refine RL.callTq (root_any a.x.f.sr) Tryz.call17 rfl rfl rfl rfl ?_
    first | refine RL.loadM Tryz.isAgg38 Tryz.sizeOf38 rfl rfl rfl rfl (by assumption) ?_ | refine RL.loadA Tryz.isAgg38 Tryz.sizeOf38 rfl rfl rfl rfl (by first | assumption | (apply RdsI.rds; assumption)) (by first | rfl | assumption | (simp only [List.length_map]; assumption) | (simp only [List.length_map, List.length_replicate, hl, hfl, hl2, hl3, hl4]; done) | (simp; done)) ?_ | refine RL.loadW Tryz.isAgg38 Tryz.sizeOf38 rfl rfl rfl rfl (by (solve | (repeat (first | exact List.Mem.head _ | apply List.Mem.tail)))) (by first | rfl | assumption | (simp only [List.length_map]; assumption) | (simp only [List.length_map, List.length_replicate, hl, hfl, hl2, hl3, hl4]; done) | (simp; done)) ?_
    refine RL.callv (rsign_any (a.x.f.few 60) (rootK a.x.f.sr) (ob1.map fun b => ⟨b, 0, none⟩) cap1 (min a.x.f.b.length 60) (rootK_len _) hf2 hb2 (by omega)) Tryz.call37 rfl rfl rfl rfl (Lend.own (by repeat (first | exact List.Mem.head _ | apply List.Mem.tail)) .nil) ?_
    refine RL.storeW (vs := ((a.x.f.few 60).sign (rootK a.x.f.sr)).cells (slO ob1 (min a.x.f.b.length 60) cap1)) Tryz.sizeOf38 rfl rfl rfl rfl rfl rfl rfl (ones_fr _ rfl) (by repeat (first | exact Upd.here | apply Upd.there)) hl3 hl2 ?_
    refine RL.nil ?_
    refine NQ.seq ?_
    refine CW.only (.cons (k := 1) rfl (.cons (k := 2) rfl (.cons (k := 3) rfl .nil))) ?_
    refine CW.region (ef := [8]) (bk := [8]) ?_
    refine RL.fieldAddr fa_38_5 rfl rfl rfl rfl ?_
    refine RL.idxAAt (j := 0) Tryz.runUnderlying36 Tryz.sizeOf5 rfl rfl rfl rfl rfl rfl (by decide) ?_
    refine RL.loadq Tryz.isAgg5 rfl rfl rfl rfl ?_
    refine RL.fieldAddr fa_43_7 rfl rfl rfl rfl ?_
    refine RL.loadq Tryz.isAgg5 rfl rfl rfl rfl ?_
    refine RL.bv8 (a := _) (b := _) xor8 rfl rfl rfl rfl rfl ?_
    refine RL.fieldAddr fa_38_5 rfl rfl rfl rfl ?_
    refine RL.idxAAt (j := 0) Tryz.runUnderlying36 Tryz.sizeOf5 rfl rfl rfl rfl rfl rfl (by decide) ?_
    refine RL.storeX (vs := [_]) gs Tryz.sizeOf5 rfl rfl rfl rfl rfl rfl rfl rfl (by repeat (first | exact Upd.here | apply Upd.there)) (by rw [hl3]; simp) ?_
    refine RL.nil ?_
    refine NQ.seq ?_
    refine CW.only (.cons (k := 2) rfl (.cons (k := 3) rfl .nil)) ?_
    refine CW.seq ?_
    refine CW.region (ef := [1]) (bk := [1]) ?_
    first | refine RL.loadM Tryz.isAgg38 Tryz.sizeOf38 rfl rfl rfl rfl (by assumption) ?_ | refine RL.loadA Tryz.isAgg38 Tryz.sizeOf38 rfl rfl rfl rfl (by first | assumption | (apply RdsI.rds; assumption)) (by first | rfl | assumption | (simp only [List.length_map]; assumption) | (simp only [List.length_map, List.length_replicate, hl, hfl, hl2, hl3, hl4]; done) | (simp; done)) ?_ | refine RL.loadW Tryz.isAgg38 Tryz.sizeOf38 rfl rfl rfl rfl (by (solve | (repeat (first | exact List.Mem.head _ | apply List.Mem.tail)))) (by first | rfl | assumption | (simp only [List.length_map]; assumption) | (simp only [List.length_map, List.length_replicate, hl, hfl, hl2, hl3, hl4]; done) | (simp; done)) ?_
    refine RL.storeW (vs := (turnF ((a.x.f.few 60).sign (rootK a.x.f.sr)) a.tu).cells (slO ob1 (min a.x.f.b.length 60) cap1)) Tryz.sizeOf38 rfl rfl rfl rfl rfl rfl rfl (ones_fr _ rfl) (by repeat (first | exact Upd.here | apply Upd.there)) hl4 rfl ?_
    refine RL.nil ?_
    refine NQ.seq ?_
    refine CW.ret ?_
    refine RQ.rea (fun _ h => h) (H' := [own ob1 cap1 5 1 (min a.x.f.b.length 60) (bytes (a.x.f.few 60).b), cel b2 ((turnF ((a.x.f.few 60).sign (rootK a.x.f.sr)) a.tu).cells (slO ob1 (min a.x.f.b.length 60) cap1)) 38]) (by repeat (first | exact Rea.nil | (apply Rea.cons; (solve | (repeat (first | exact Del.here | apply Del.there)))))) (RQ.post (resW rfl rfl Tryz.isAgg38 Tryz.sizeOf38 (by repeat (first | exact List.Mem.head _ | apply List.Mem.tail)) hl4) (.keep (Split.none _)) ⟨ob1, cap1, rfl, rfl, rfl, trivial⟩)
  · have hS : shF a = a.x.f.few 60 := by rw [shF, if_neg (by rw [hs]; decide)]
    rw [hS]
    refine CW.skip ?_
    refine NQ.seq ?_
    refine CW.only (.cons (k := 2) rfl (.cons (k := 3) rfl .nil)) ?_
    refine CW.seq ?_
    refine CW.region (ef := [1]) (bk := [1]) ?_
    first | refine RL.loadM Tryz.isAgg38 Tryz.sizeOf38 rfl rfl rfl rfl (by assumption) ?_ | refine RL.loadA Tryz.isAgg38 Tryz.sizeOf38 rfl rfl rfl rfl (by first | assumption | (apply RdsI.rds; assumption)) (by first | rfl | assumption | (simp only [List.length_map]; assumption) | (simp only [List.length_map, List.length_replicate, hl, hfl, hl2]; done) | (simp; done)) ?_ | refine RL.loadW Tryz.isAgg38 Tryz.sizeOf38 rfl rfl rfl rfl (by (solve | (repeat (first | exact List.Mem.head _ | apply List.Mem.tail)))) (by first | rfl | assumption | (simp only [List.length_map]; assumption) | (simp only [List.length_map, List.length_replicate, hl, hfl, hl2]; done) | (simp; done)) ?_
    refine RL.storeW (vs := (a.x.f.few 60).cells (slO ob1 (min a.x.f.b.length 60) cap1)) Tryz.sizeOf38 rfl rfl rfl rfl rfl rfl rfl (ones_fr _ rfl) (by repeat (first | exact Upd.here | apply Upd.there)) hl2 rfl ?_
    refine RL.nil ?_
    refine NQ.seq ?_
    refine CW.ret ?_
    refine RQ.rea (fun _ h => h) (H' := [own ob1 cap1 5 1 (min a.x.f.b.length 60) (bytes (a.x.f.few 60).b), cel b2 ((a.x.f.few 60).cells (slO ob1 (min a.x.f.b.length 60) cap1)) 38]) (by repeat (first | exact Rea.nil | (apply Rea.cons; (solve | (repeat (first | exact Del.here | apply Del.there)))))) ?_
    exact RQ.post (resW rfl rfl Tryz.isAgg38 Tryz.sizeOf38 (by repeat (first | exact List.Mem.head _ | apply List.Mem.tail)) hl2) (.keep (Split.none _)) ⟨ob1, cap1, rfl, rfl, rfl, trivial⟩
end Go.Proofs.YtkkfdoippibfkaaGreat

namespace Go.Proofs.YtkkfdoippibfkaaGreat
open Go.PK

/-! ### An act, to both -/
theorem Src.takeI {I H : List It} {p : Option Addr} {l : List Int} {m : Nat} (hm : sls p 1 l.length (ints l) ∈ I) (h : m ≤ l.length) : Src I H p m 1 (ints (l.take m)) := by
  have := Src.sub (H := H) (lo := 0) (hi := m) (cap := l.length) (Src.sls hm) (by omega) h (by omega)
  rw [few_all19, Nat.sub_zero, Nat.zero_mul, List.drop_zero, Nat.mul_one] at this
  rw [ints, List.map_take]; exact this
theorem Lend.takeI {I F J : List It} {p : Option Addr} {c m : Nat} {l : List Int} (hm : sls p 1 l.length (ints l) ∈ I) (hc : l.length ≤ c) (hk : m ≤ l.length) (h : Lend I F J) : Lend I F (sls p 1 m (ints (l.take m)) :: J) := by
  have := Lend.subP (F := F) (lo := 0) (k := m) hm (by omega) hc h
  rw [few_all19, Nat.zero_mul, List.drop_zero, Nat.mul_one] at this
  rw [ints, List.map_take]; exact this
abbrev GRI (B : GB) (g : GSt) (Br : RB) (r : RS) : List It := gCel B :: allI (RingL B.r B.m1 B.m2 g.T g.c) :: kI B.kb B.mo B.ti g.l :: tabI B.tb B.mt :: mksI B.mt g.cm :: mapI B.my goodR g.cy :: mapI B.md goodI g.ct :: RGI Br r
abbrev k6 (a : Act19) : List Int := a.ks.l.take 6
inductive DoS (B : GB) (Br : RB) (g : GSt) (r : RS) (a : Act19) (e : Nat) (g' : GSt) (r' : RS) : Nat → Int → Int → Prop
  | roll : g'.T = rollT g.T a.s e a.t a.g → g'.l = g.l → g'.M = g.M → g'.Y = g.Y → g'.D = g.D → r'.R = rrollR r.R a.s e a.t a.g → r'.l = r.l → r'.M = r.M → r'.W = r.W → r'.D = r.D → DoS B Br g r a e g' r' 6 (rollE g.T a.s e a.t a.g) (rrollE r.R a.s e a.t a.g)
  | raise : g'.T = raiseT g.T a.s a.m.1 → g'.l = g.l → g'.M = graM g a.s a.m → g'.Y = g.Y → g'.D = g.D → r'.R = rraiseR r.R a.s a.m.1 → r'.l = r.l → r'.M = rraM r a.s a.m → r'.W = r.W → r'.D = r.D → DoS B Br g r a e g' r' 7 (graE g a.s a.m) (rraE r a.s a.m)
  | src (b : Nat) : g'.T = srcT g a.s (rootK a.s) (k6 a) b → g'.l = g.l → g'.M = g.M → g'.Y = srcY g a.s (k6 a) → g'.D = g.D → r'.R = rsrcR r.R a.s (rootK a.s) (k6 a) → r'.l = r.l → r'.M = r.M → r'.W = rsrcW r.R r.W a.s (k6 a) → r'.D = r.D → DoS B Br g r a e g' r' 8 (srcE g a.s (k6 a)) (rsrcE r.R a.s (k6 a))
  | chk (k : Nat) : k < 6 → g'.T = g.T → g'.l = lookL B g (shF a) a.t → g'.M = lookM g (shF a) a.t → g'.Y = g.Y → g'.D = chkD g.D (lookE g (shF a) a.t) → r'.R = r.R → r'.l = lkL Br.mo Br.ti (rK r (shF a) a.t) (rY r (shF a)) r.l r.M (shF a) a.t → r'.M = lkM (rK r (shF a) a.t) (rY r (shF a)) r.l r.M (shF a) a.t → r'.W = r.W → r'.D = bump (lkE (rK r (shF a) a.t) (rY r (shF a)) r.l r.M (shF a) a.t) r.D →
    DoS B Br g r a e g' r' k (lookE g (shF a) a.t) (lkE (rK r (shF a) a.t) (rY r (shF a)) r.l r.M (shF a) a.t)
def DoR19 (B : GB) (Br : RB) (g : GSt) (r : RS) (a : Act19) : Value → List It → List It → Prop := fun v I' H' => ∃ e g' r' x x', e < 4294967296 ∧ v = .bool (x == x') ∧ I' = [] ∧ H' = GRI B g' Br r' ∧ GOk g' ∧ Alike g'.T r'.R ∧ DoS B Br g r a e g' r' (amongN a.d 9) x x'
theorem Alike.src {g : GSt} {R : List One} (h : Alike g.T R) (s : Int) {k : List B8} (hk : k.length = 32) (ks : List Int) (b : Nat) : Alike (srcT g s k ks b) (rsrcR R s k ks) ∧ srcE g s ks = rsrcE R s ks := by
  rw [srcT, rsrcR, srcE, rsrcE]
  have := h.putA s hk b
  by_cases hc : ks = [] ∨ ks.any oddG = true
  · rw [if_pos hc, if_pos hc, if_pos hc, if_pos hc]; exact ⟨h, rfl⟩
  · rw [if_neg hc, if_neg hc, if_neg hc, if_neg hc]; exact ⟨this.1, this.2.2⟩
theorem rsok {g : GSt} {r : RS} (h : Alike g.T r.R) (hl : r.l.length = 8) (hw : r.W.length ≤ 50000) (hd : r.D.length ≤ 50000) : RSOk r := ⟨h.r, h.e1R, h.e, h.len, hl, by omega, by omega⟩
theorem k6_min (a : Act19) : a.ks.l.take (min a.ks.l.length 6) = k6 a := List.take_eq_take_iff.2 (by omega)
theorem min6 (n : Nat) : min (n : Int) 6 = ((min n 6 : Nat) : Int) := by omega
theorem u32_near (n : Nat) : ∃ e : Nat, IntKind.u32.wrap ((n : Int) + 1) = (e : Int) ∧ e < 4294967296 := by
  have h : 0 ≤ IntKind.u32.wrap ((n : Int) + 1) ∧ IntKind.u32.wrap ((n : Int) + 1) < 4294967296 := by simp [IntKind.wrap, IntKind.bits, IntKind.signed]; omega
  exact ⟨_, (Int.toNat_of_nonneg h.1).symm, by omega⟩
end Go.Proofs.YtkkfdoippibfkaaGreat

namespace Go.Proofs.YtkkfdoippibfkaaGreat
open Go.PK

theorem do19_any (B : GB) (Br : RB) (g : GSt) (r : RS) (a : Act19) (ha : a.Ok) (hmo : B.mo ≠ 0) (hg : GOk g) (hA : Alike g.T r.R) (hl8 : r.l.length = 8) (hw5 : r.W.length ≤ 50000) (hd5 : r.D.length ≤ 50000) :
    Spc Tryz.prog 10 #[.pointer (some ⟨B.gb, 0, none⟩), .pointer (some ⟨Br.yb, 0, none⟩), .agg a.cells.toArray] a.its (GRI B g Br r) (DoR19 B Br g r a) := by
  have hr := rsok hA hl8 hw5 hd5
  have hlen := hA.len
  have hal := act19_len ha
  have hk6 : (k6 a).length = min a.ks.l.length 6 := by show (a.ks.l.take 6).length = _; rw [List.length_take]; omega
  have hsf := shF_ok ha
  have hsb : (shF a).b.length = min a.x.f.b.length 60 := by rw [shF_b, List.length_take]; omega
  unfold Act19.its
  refine Spc.enter Tryz.func10 rfl rfl rfl (fun w0 hw0 => ?_)
  refine CW.seq ?_
  refine CW.region (ef := [0]) (bk := []) ?_
  refine RL.box rfl rfl rfl rfl rfl rfl ?_
  intro b1
  refine RL.assign rfl rfl rfl rfl ?_
  refine RL.nil ?_
  refine NQ.seq ?_
  refine CW.seq ?_
  refine CW.freezeP (A := [_]) (B := [_, _, _, _, _, _, _, _, _, _, _, _, _, _]) (.take (.leave (.leave (.leave (.leave (.leave (.leave (.leave (.leave (.leave (.leave (.leave (.leave (.leave (.leave .nil))))))))))))))) rfl ?_
  generalize hJ : ([cel b1 a.cells 43] ++ [sls a.x.p 1 a.x.f.b.length (bytes a.x.f.b), sls a.ks.p 1 a.ks.l.length (a.ks.l.map (Value.int .i64))] : List It) = J
  have m1 : cel b1 a.cells 43 ∈ J := by rw [← hJ]; exact (by repeat (first | exact List.Mem.head _ | apply List.Mem.tail))
  have m2 : sls a.x.p 1 a.x.f.b.length (bytes a.x.f.b) ∈ J := by rw [← hJ]; exact (by repeat (first | exact List.Mem.head _ | apply List.Mem.tail))
  have m3 : sls a.ks.p 1 a.ks.l.length (ints a.ks.l) ∈ J := by rw [← hJ]; exact (by repeat (first | exact List.Mem.head _ | apply List.Mem.tail))
  have f0 : RdI J ⟨b1, 0 + 0, none⟩ (.int .i64 a.d) := ⟨fun _ => Rd.getI m1 rfl⟩
  have f1 : RdI J ⟨b1, 0 + 1, none⟩ (.int .i64 a.s) := ⟨fun _ => Rd.getI m1 rfl⟩
  have f2 : RdI J ⟨b1, 0 + 2, none⟩ (.int .i64 a.t) := ⟨fun _ => Rd.getI m1 rfl⟩
  have f3 : RdI J ⟨b1, 0 + 3, none⟩ (.int .i64 a.g) := ⟨fun _ => Rd.getI m1 rfl⟩
  have f4 : RdI J ⟨b1, 0 + 26, none⟩ (.bool a.nr) := ⟨fun _ => Rd.getI m1 (a19_at ha 1)⟩
  have f5 : RdI J ⟨b1, 0 + 28, none⟩ (.int .u32 (a.e : Int)) := ⟨fun _ => Rd.getI m1 (a19_at ha 3)⟩
  have f6 : RdI J ⟨b1, 0 + 29 + 0, none⟩ (.int .u32 (a.m.1 : Int)) := ⟨fun _ => Rd.getI m1 (a19_at ha 4)⟩
  have f7 : RdI J ⟨b1, 0 + 29 + 1, none⟩ (.int .u64 (a.m.2 : Int)) := ⟨fun _ => Rd.getI m1 (a19_at ha 5)⟩
  have f8 : RdI J ⟨b1, 0 + 31, none⟩ (.slice a.ks.p a.ks.l.length a.ks.c) := ⟨fun _ => Rd.getI m1 (a19_at ha 6)⟩
  have f9 : RdsN J ⟨b1, 0 + 29, none⟩ 2 [.int .u32 (a.m.1 : Int), .int .u64 (a.m.2 : Int)] := RdsN.told m1 (a19_mk ha) rfl
  have f10 : RdsN J ⟨b1, 0, none⟩ 32 a.cells := RdsN.told m1 (fun j u h => by rw [Nat.zero_add]; exact h) hal
  clear hJ
  have hk1 := ha.k1
  refine CW.region (ef := []) (bk := []) ?_
  refine RL.fieldAddr fa_43_8 rfl rfl rfl rfl ?_
  refine RL.loadq Tryz.isAgg32 rfl rfl rfl rfl ?_
  refine RL.assign rfl rfl rfl rfl ?_
  refine RL.nil ?_
  refine NQ.seq ?_
  refine CW.seq ?_
  refine CW.seq ?_
  refine CW.region (ef := []) (bk := []) ?_
  refine RL.fieldAddr fa_43_6 rfl rfl rfl rfl ?_
  refine RL.loadq Tryz.isAgg4 rfl rfl rfl rfl ?_
  refine RL.nil ?_
  refine NQ.seq ?_
  refine CW.cond rfl (fun hn => ?_) (fun hn => ?_)
  ·
    refine CW.regionD (Sq.of [0, 1, 2, 3, 4, 5, 6, 7, 8]) [] [] [0, 1, 2, 4, 5, 7, 8] mixed (by kernel_rfl) ?_
    refine RL.move rfl rfl rfl rfl ?_
    refine RL.nilCheck rfl rfl rfl rfl ?_
    refine RL.fieldAddr fa_93_0 rfl rfl rfl rfl ?_
    refine RL.loadq Tryz.isAgg80 rfl rfl rfl rfl ?_
    refine RL.fieldAddr fa_43_1 rfl rfl rfl rfl ?_
    refine RL.loadTq Tryz.isAgg3 rfl rfl rfl rfl ?_
    refine RL.callvq (repoch_any Br.y r.R r.ob r.cp a.s hA.r (by omega)) Tryz.call28 rfl rfl rfl rfl ?_
    refine RL.bin rfl rfl rfl rfl rfl rfl ?_
    refine RL.assign rfl rfl rfl rfl ?_
    refine RL.nil ?_
    refine NQ.seq ?_
    refine CW.only (.cons (k := 0) rfl (.cons (k := 1) rfl (.cons (k := 5) rfl (.cons (k := 7) rfl .nil)))) ?_
    refine CW.seq ?_
    obtain ⟨E, hE, hlt⟩ := u32_near (epochR r.R a.s)
    rw [hE]
    refine CW.region (ef := []) (bk := []) ?_
    refine RL.fieldAddr fa_43_10 rfl rfl rfl rfl ?_
    refine RL.loadq Tryz.isAgg41 rfl rfl rfl rfl ?_
    refine RL.fieldAddr fa_43_10 rfl rfl rfl rfl ?_
    refine RL.loadq Tryz.isAgg41 rfl rfl rfl rfl ?_
    refine RL.lenS Tryz.runUnderlying41 rfl rfl rfl rfl ?_
    refine RL.min rfl rfl rfl rfl rfl ?_
    rw [min6]
    refine RL.slice (lo := 0) (hi := min a.ks.l.length 6) Tryz.runUnderlying41 Tryz.sizeOf3 rfl rfl rfl rfl rfl rfl (by omega) (by omega) ?_
    rw [few_all19, Nat.sub_zero, Nat.sub_zero]
    refine RL.assign rfl rfl rfl rfl ?_
    refine RL.nil ?_
    refine NQ.seq ?_
    refine CW.only (.cons (k := 0) rfl (.cons (k := 1) rfl (.cons (k := 5) rfl (.cons (k := 7) rfl (.cons (k := 8) rfl .nil))))) ?_
    refine CW.seq ?_
    refine CW.seq ?_
    refine CW.region (ef := []) (bk := []) ?_
    refine RL.fieldAddr fa_43_0 rfl rfl rfl rfl ?_
    refine RL.loadq Tryz.isAgg3 rfl rfl rfl rfl ?_
    refine RL.callvq (among_any a.d 9 (by omega) (by omega)) Tryz.call8 rfl rfl rfl rfl ?_
    refine RL.nil ?_
    refine NQ.seq ?_
    refine CW.block ?_
    refine CW.seq ?_
    refine CW.region (ef := []) (bk := []) ?_
    refine RL.bin rfl rfl rfl rfl rfl rfl ?_
    refine RL.assign rfl rfl rfl rfl ?_
    refine RL.nil ?_
    refine NQ.seq ?_
    refine CW.cond rfl (fun h6 => ?_) (fun h6 => ?_)
    · have hq := hA.roll a.s hlt a.t a.g
      refine CW.seq ?_
      refine CW.regionD (.cons 0 (.cons 1 (.cons 2 (.cons 3 (.cons 4 (.cons 5 (.cons 6 (.cons 7 (.cons 9 (.cons 10 (.cons 11 (.cons 13 (.cons 14 (.cons 15 (.cons 16 (.cons 17 (.cons 18 (.cons 19 (.fork [8, 12] (fun k => (bif Nat.beq k 8 then (Sq.of [12, 20, 21, 22]) else (Sq.of [8, 20, 21, 22])))))))))))))))))))))) [8, 20] [8, 20] [0, 1, 2, 3, 4, 5, 6, 7, 9, 10, 11, 13, 14, 15, 16, 17, 18, 19, 21, 22] mixed (by kernel_rfl) ?_
      refine RL.move rfl rfl rfl rfl ?_
      refine RL.fieldAddr fa_43_1 rfl rfl rfl rfl ?_
      refine RL.loadTq Tryz.isAgg3 rfl rfl rfl rfl ?_
      refine RL.move rfl rfl rfl rfl ?_
      refine RL.fieldAddr fa_43_2 rfl rfl rfl rfl ?_
      refine RL.loadTq Tryz.isAgg3 rfl rfl rfl rfl ?_
      refine RL.fieldAddr fa_43_3 rfl rfl rfl rfl ?_
      refine RL.loadTq Tryz.isAgg3 rfl rfl rfl rfl ?_
      refine RL.move rfl rfl rfl rfl ?_
      refine RL.nilCheck rfl rfl rfl rfl ?_
      refine RL.fieldAddr fa_93_0 rfl rfl rfl rfl ?_
      refine RL.fieldAddr fa_43_1 rfl rfl rfl rfl ?_
      refine RL.loadTq Tryz.isAgg3 rfl rfl rfl rfl ?_
      refine RL.move rfl rfl rfl rfl ?_
      refine RL.fieldAddr fa_43_2 rfl rfl rfl rfl ?_
      refine RL.loadTq Tryz.isAgg3 rfl rfl rfl rfl ?_
      refine RL.fieldAddr fa_43_3 rfl rfl rfl rfl ?_
      refine RL.loadTq Tryz.isAgg3 rfl rfl rfl rfl ?_
      have h6 : amongN a.d 9 = 6 := by simp at h6; omega
      refine RL.fork ⟨?_, ?_, trivial⟩
      ·
        refine RL.callq (groll_any B g a.s E a.t a.g hg hlt) Tryz.call29 rfl rfl rfl rfl rfl (.inr rfl) ?_
        rintro _ _ _ ⟨rfl, rfl, c', hc', rfl⟩
        refine RL.loadq Tryz.isAgg80 rfl rfl rfl rfl ?_
        refine RL.callq (rroll_any Br.y r.R r.ob r.cp a.s E a.t a.g hA.r hA.e (by omega)) Tryz.call30 rfl rfl rfl rfl rfl (.inr rfl) ?_
        rintro _ _ _ ⟨rfl, rfl, ob', cp', rfl⟩
        refine RL.bin rfl rfl rfl rfl rfl rfl ?_
        refine RL.assign rfl rfl rfl rfl ?_
        refine RL.nil ?_
        refine NQ.seq ?_
        refine CW.only (.cons (k := 0) rfl (.cons (k := 1) rfl (.cons (k := 5) rfl (.cons (k := 6) rfl .nil)))) ?_
        refine CW.ret ?_
        refine RQ.block ?_
        refine RQ.seq ?_
        exact RQ.rea (fun _ h => h) (H' := GRI B ({ g with T := rollT g.T a.s E a.t a.g, c := c' }) Br ({ r with R := rrollR r.R a.s E a.t a.g, ob := ob', cp := cp' })) (by repeat (first | exact Rea.nil | (apply Rea.cons; (solve | (repeat (first | exact Del.here | apply Del.there)))))) (RQ.post (res1 rfl rfl) (.keep (.keep (.keep (.keep (.keep (.keep (.keep (.keep (.keep (.keep (.keep (.keep (.keep (.keep .nil)))))))))))))) ⟨E, { g with T := rollT g.T a.s E a.t a.g, c := c' }, { r with R := rrollR r.R a.s E a.t a.g, ob := ob', cp := cp' }, _, _, hlt, rfl, rfl, rfl, ⟨hq.1.t, hc', hg.l, hg.m, hg.y, hg.d⟩, hq.1, by rw [h6]; exact .roll rfl rfl rfl rfl rfl rfl rfl rfl rfl rfl⟩)
      ·
        refine RL.loadq Tryz.isAgg80 rfl rfl rfl rfl ?_
        refine RL.callq (groll_any B g a.s E a.t a.g hg hlt) Tryz.call29 rfl rfl rfl rfl rfl (.inr rfl) ?_
        rintro _ _ _ ⟨rfl, rfl, c', hc', rfl⟩
        refine RL.callq (rroll_any Br.y r.R r.ob r.cp a.s E a.t a.g hA.r hA.e (by omega)) Tryz.call30 rfl rfl rfl rfl rfl (.inr rfl) ?_
        rintro _ _ _ ⟨rfl, rfl, ob', cp', rfl⟩
        refine RL.bin rfl rfl rfl rfl rfl rfl ?_
        refine RL.assign rfl rfl rfl rfl ?_
        refine RL.nil ?_
        refine NQ.seq ?_
        refine CW.only (.cons (k := 0) rfl (.cons (k := 1) rfl (.cons (k := 5) rfl (.cons (k := 6) rfl .nil)))) ?_
        refine CW.ret ?_
        refine RQ.block ?_
        refine RQ.seq ?_
        exact RQ.rea (fun _ h => h) (H' := GRI B ({ g with T := rollT g.T a.s E a.t a.g, c := c' }) Br ({ r with R := rrollR r.R a.s E a.t a.g, ob := ob', cp := cp' })) (by repeat (first | exact Rea.nil | (apply Rea.cons; (solve | (repeat (first | exact Del.here | apply Del.there)))))) (RQ.post (res1 rfl rfl) (.keep (.keep (.keep (.keep (.keep (.keep (.keep (.keep (.keep (.keep (.keep (.keep (.keep (.keep .nil)))))))))))))) ⟨E, { g with T := rollT g.T a.s E a.t a.g, c := c' }, { r with R := rrollR r.R a.s E a.t a.g, ob := ob', cp := cp' }, _, _, hlt, rfl, rfl, rfl, ⟨hq.1.t, hc', hg.l, hg.m, hg.y, hg.d⟩, hq.1, by rw [h6]; exact .roll rfl rfl rfl rfl rfl rfl rfl rfl rfl rfl⟩)
    ·
      refine CW.seq ?_
      refine CW.region (ef := []) (bk := []) ?_
      refine RL.bin rfl rfl rfl rfl rfl rfl ?_
      refine RL.assign rfl rfl rfl rfl ?_
      refine RL.nil ?_
      refine NQ.seq ?_
      refine CW.only (.cons (k := 0) rfl (.cons (k := 1) rfl (.cons (k := 5) rfl (.cons (k := 8) rfl (.cons (k := 30) rfl (.cons (k := 55) rfl .nil)))))) ?_
      refine CW.cond rfl (fun h7 => ?_) (fun h7 => ?_)
      ·
        refine CW.seq ?_
        refine CW.regionD (Sq.of [0, 1, 2, 3, 4, 6, 7, 8, 9, 10, 11, 12, 13, 14, 15, 5, 16, 17, 18]) [5, 16] [5, 16] [0, 1, 2, 3, 4, 6, 7, 8, 9, 10, 11, 12, 13, 14, 15, 17, 18] mixed (by kernel_rfl) ?_
        refine RL.move rfl rfl rfl rfl ?_
        refine RL.fieldAddr fa_43_1 rfl rfl rfl rfl ?_
        refine RL.loadTq Tryz.isAgg3 rfl rfl rfl rfl ?_
        refine RL.fieldAddr fa_43_9 rfl rfl rfl rfl ?_
        first | refine RL.loadMT Tryz.isAgg40 Tryz.sizeOf40 rfl rfl rfl rfl (by assumption) ?_ | refine RL.loadAT Tryz.isAgg40 Tryz.sizeOf40 rfl rfl rfl rfl (by first | assumption | (apply RdsI.rds; assumption)) (by first | rfl | assumption | (simp only [List.length_map]; assumption) | (simp only [List.length_map, List.length_replicate, hal]; done) | (simp; done)) ?_
        refine RL.move rfl rfl rfl rfl ?_
        refine RL.fieldAddr fa_43_1 rfl rfl rfl rfl ?_
        refine RL.loadTq Tryz.isAgg3 rfl rfl rfl rfl ?_
        refine RL.fieldAddr fa_43_9 rfl rfl rfl rfl ?_
        refine RL.fieldAddr fa_40_0 rfl rfl rfl rfl ?_
        refine RL.loadTq Tryz.isAgg32 rfl rfl rfl rfl ?_
        refine RL.fieldAddr fa_43_9 rfl rfl rfl rfl ?_
        refine RL.fieldAddr fa_40_1 rfl rfl rfl rfl ?_
        refine RL.loadTq Tryz.isAgg33 rfl rfl rfl rfl ?_
        refine RL.buildS [_, _] Tryz.zeroValue85 pl_85 rfl rfl rfl rfl rfl ?_
        refine RL.callq (graise_any B g a.s a.m hg ha.m1) Tryz.call31 rfl rfl rfl rfl rfl (.inr rfl) ?_
        have h7 : amongN a.d 9 = 7 := by simp at h7; omega
        rintro _ _ _ ⟨rfl, rfl, c', cm', hc', hcm', rfl⟩
        refine RL.callq (rgraise_any Br r a.s a.m hr) Tryz.call32 rfl rfl rfl rfl rfl (.inr rfl) ?_
        rintro _ _ _ ⟨rfl, rfl, ob', cp', rfl⟩
        refine RL.bin rfl rfl rfl rfl rfl rfl ?_
        refine RL.assign rfl rfl rfl rfl ?_
        refine RL.nil ?_
        refine NQ.seq ?_
        refine CW.only (.cons (k := 0) rfl (.cons (k := 1) rfl (.cons (k := 5) rfl (.cons (k := 6) rfl .nil)))) ?_
        refine CW.ret ?_
        refine RQ.block ?_
        refine RQ.seq ?_
        have hq := hA.raise a.s ha.m1
        exact RQ.rea (fun _ h => h) (H' := GRI B ({ g with T := raiseT g.T a.s a.m.1, c := c', M := graM g a.s a.m, cm := cm' }) Br ({ r with R := rraiseR r.R a.s a.m.1, M := rraM r a.s a.m, ob := ob', cp := cp' })) (by repeat (first | exact Rea.nil | (apply Rea.cons; (solve | (repeat (first | exact Del.here | apply Del.there)))))) (RQ.post (res1 rfl rfl) (.keep (.keep (.keep (.keep (.keep (.keep (.keep (.keep (.keep (.keep (.keep (.keep (.keep (.keep .nil)))))))))))))) ⟨E, { g with T := raiseT g.T a.s a.m.1, c := c', M := graM g a.s a.m, cm := cm' }, { r with R := rraiseR r.R a.s a.m.1, M := rraM r a.s a.m, ob := ob', cp := cp' }, _, _, hlt, rfl, rfl, rfl, ⟨hq.1.t, hc', hg.l, hcm', hg.y, hg.d⟩, hq.1, by rw [h7]; exact .raise rfl rfl rfl rfl rfl rfl rfl rfl rfl rfl⟩)
      ·
        refine CW.seq ?_
        refine CW.region (ef := []) (bk := []) ?_
        refine RL.bin rfl rfl rfl rfl rfl rfl ?_
        refine RL.assign rfl rfl rfl rfl ?_
        refine RL.nil ?_
        refine NQ.seq ?_
        refine CW.cond rfl (fun h8 => ?_) (fun h8 => ?_)
        ·
          refine CW.seq ?_
          refine CW.regionD (Sq.of [0, 1, 2, 3, 4, 5, 7, 10, 11, 12, 13, 14, 16, 6, 8, 9, 15, 17, 18, 19]) [6, 8, 9, 17] [8, 9, 17] [0, 1, 2, 3, 4, 5, 7, 10, 11, 12, 13, 14, 15, 16, 18, 19] mixed (by kernel_rfl) ?_
          refine RL.move rfl rfl rfl rfl ?_
          refine RL.fieldAddr fa_43_1 rfl rfl rfl rfl ?_
          refine RL.loadTq Tryz.isAgg3 rfl rfl rfl rfl ?_
          refine RL.fieldAddr fa_43_1 rfl rfl rfl rfl ?_
          refine RL.loadTq Tryz.isAgg3 rfl rfl rfl rfl ?_
          refine RL.callTq (root_any a.s) Tryz.call17 rfl rfl rfl rfl ?_
          refine RL.move rfl rfl rfl rfl ?_
          refine RL.move rfl rfl rfl rfl ?_
          refine RL.fieldAddr fa_43_1 rfl rfl rfl rfl ?_
          refine RL.loadTq Tryz.isAgg3 rfl rfl rfl rfl ?_
          refine RL.fieldAddr fa_43_1 rfl rfl rfl rfl ?_
          refine RL.loadTq Tryz.isAgg3 rfl rfl rfl rfl ?_
          refine RL.move rfl rfl rfl rfl ?_
          refine RL.buildOwn [] Tryz.runUnderlying41 Tryz.sizeOf3 Tryz.zeroValue3 rfl rfl (by decide) (by decide) rfl (by decide) rfl rfl rfl rfl rfl rfl ?_
          intro b2
          refine RL.appendA el_41 rfl rfl rfl rfl rfl rfl rfl (by first | exact ⟨(.take (Pick.none _)), rfl⟩ | exact ⟨(.leave (.take (Pick.none _))), rfl⟩ | exact ⟨(.leave (.leave (.take (Pick.none _)))), rfl⟩ | exact ⟨(.leave (.leave (.leave (.take (Pick.none _))))), rfl⟩ | exact ⟨(.leave (.leave (.leave (.leave (.take (Pick.none _)))))), rfl⟩ | exact ⟨(.leave (.leave (.leave (.leave (.leave (.take (Pick.none _))))))), rfl⟩ | exact ⟨(.leave (.leave (.leave (.leave (.leave (.leave (.take (Pick.none _)))))))), rfl⟩ | exact ⟨(.leave (.leave (.leave (.leave (.leave (.leave (.leave (.take (Pick.none _))))))))), rfl⟩ | exact ⟨(.leave (.leave (.leave (.leave (.leave (.leave (.leave (.leave (.take (Pick.none _)))))))))), rfl⟩ | exact ⟨(.leave (.leave (.leave (.leave (.leave (.leave (.leave (.leave (.leave (.take (Pick.none _))))))))))), rfl⟩) (Src.takeI m3 (by omega)) (ones_spec (ones_map (fun _ => rfl) _)) (by first | omega | (simp only [maxLen]; omega)) (by first | omega | (simp only [maxLen]; omega)) ?_
          intro ob1 cap1 ho1
          refine RL.call (gsource_any B g a.s (rootK a.s) (ob1.map fun b => ⟨b, 0, none⟩) cap1 (0 + min a.ks.l.length 6) (k6 a) hg (rootK_len _) (by omega) (by omega)) Tryz.call16 rfl rfl rfl rfl rfl (by repeat (first | exact Pick.nil | apply Pick.take | apply Pick.leave)) (Lend.ownE (by repeat (first | exact List.Mem.head _ | apply List.Mem.tail)) rfl (by rw [k6_min]; rfl) .nil) (.inr rfl) ?_
          have h8 : amongN a.d 9 = 8 := by simp at h8; omega
          rintro _ _ _ ⟨rfl, rfl, bk, c', cy', hc', hcy', rfl⟩
          refine RL.callTq (root_any a.s) Tryz.call17 rfl rfl rfl rfl ?_
          refine RL.call (rgsource_any Br r a.s (rootK a.s) a.ks.p a.ks.c (min a.ks.l.length 6) (k6 a) hr (rootK_len _) hk6 (by omega)) Tryz.call18 rfl rfl rfl rfl rfl (by repeat (first | exact Pick.nil | apply Pick.take | apply Pick.leave)) (by rw [← k6_min a]; exact Lend.takeI m3 ha.k1 (by omega) .nil) (.inr rfl) ?_
          rintro _ _ _ ⟨rfl, rfl, ob', cp', ow', cw', rfl⟩
          refine RL.bin rfl rfl rfl rfl rfl rfl ?_
          refine RL.assign rfl rfl rfl rfl ?_
          refine RL.nil ?_
          refine NQ.seq ?_
          refine CW.only (.cons (k := 0) rfl (.cons (k := 1) rfl (.cons (k := 5) rfl (.cons (k := 6) rfl .nil)))) ?_
          refine CW.ret ?_
          refine RQ.block ?_
          refine RQ.seq ?_
          have hq := hA.src a.s (rootK_len a.s) (k6 a) bk
          exact RQ.rea (fun _ h => h) (H' := GRI B ({ g with T := srcT g a.s (rootK a.s) (k6 a) bk, c := c', Y := srcY g a.s (k6 a), cy := cy' }) Br ({ r with R := rsrcR r.R a.s (rootK a.s) (k6 a), W := rsrcW r.R r.W a.s (k6 a), ob := ob', cp := cp', ow := ow', cw := cw' })) (by repeat (first | exact Rea.nil | (apply Rea.cons; (solve | (repeat (first | exact Del.here | apply Del.there)))))) (RQ.post (res1 rfl rfl) (.keep (.keep (.keep (.keep (.keep (.keep (.keep (.keep (.keep (.keep (.keep (.keep (.keep (.keep .nil)))))))))))))) ⟨E, { g with T := srcT g a.s (rootK a.s) (k6 a) bk, c := c', Y := srcY g a.s (k6 a), cy := cy' }, { r with R := rsrcR r.R a.s (rootK a.s) (k6 a), W := rsrcW r.R r.W a.s (k6 a), ob := ob', cp := cp', ow := ow', cw := cw' }, _, _, hlt, rfl, rfl, rfl, ⟨hq.1.t, hc', hg.l, hg.m, hcy', hg.d⟩, hq.1, by rw [h8]; exact .src bk rfl rfl rfl rfl rfl rfl rfl rfl rfl rfl⟩)
        ·
          refine CW.skip ?_
          refine NQ.block ?_
          refine NQ.seq ?_
          refine CW.seq ?_
          refine CW.regionD (Sq.of [0, 1, 2, 3, 6, 7, 8, 9, 4, 5, 10, 11, 12, 13]) [4, 5, 10, 11] [5, 11] [0, 1, 2, 3, 6, 7, 8, 9, 12, 13] mixed (by kernel_rfl) ?_
          refine RL.move rfl rfl rfl rfl ?_
          refine RL.fieldAddr fa_43_2 rfl rfl rfl rfl ?_
          refine RL.loadTq Tryz.isAgg3 rfl rfl rfl rfl ?_
          first | refine RL.loadMT Tryz.isAgg43 Tryz.sizeOf43 rfl rfl rfl rfl (by assumption) ?_ | refine RL.loadAT Tryz.isAgg43 Tryz.sizeOf43 rfl rfl rfl rfl (by first | assumption | (apply RdsI.rds; assumption)) (by first | rfl | assumption | (simp only [List.length_map]; assumption) | (simp only [List.length_map, List.length_replicate, hal]; done) | (simp; done)) ?_
          refine RL.move rfl rfl rfl rfl ?_
          refine RL.fieldAddr fa_43_2 rfl rfl rfl rfl ?_
          refine RL.loadTq Tryz.isAgg3 rfl rfl rfl rfl ?_
          first | refine RL.loadMT Tryz.isAgg43 Tryz.sizeOf43 rfl rfl rfl rfl (by assumption) ?_ | refine RL.loadAT Tryz.isAgg43 Tryz.sizeOf43 rfl rfl rfl rfl (by first | assumption | (apply RdsI.rds; assumption)) (by first | rfl | assumption | (simp only [List.length_map]; assumption) | (simp only [List.length_map, List.length_replicate, hal]; done) | (simp; done)) ?_
          refine RL.call (shown_any a ha) Tryz.call13 rfl rfl rfl rfl rfl (by repeat (first | exact Pick.nil | apply Pick.take | apply Pick.leave)) (.inI m2 .nil) (.inl rfl) ?_
          rintro _ _ _ ⟨ob1, cap1, rfl, rfl, rfl, ho1⟩
          refine RL.call (gcheck_any B g (shF a) (ob1.map fun b => ⟨b, 0, none⟩) cap1 (min a.x.f.b.length 60) a.t hmo hg hsf hsb (by omega)) Tryz.call14 rfl rfl rfl rfl rfl (by repeat (first | exact Pick.nil | apply Pick.take | apply Pick.leave)) (Lend.own (by repeat (first | exact List.Mem.head _ | apply List.Mem.tail)) .nil) (.inr rfl) ?_
          have h9 : amongN a.d 9 < 6 := by have := amongN_lt (x := a.d) (n := 9) (by omega); simp at h6 h7 h8; omega
          rintro _ _ _ ⟨rfl, rfl, cm', ct', hcm', hct', rfl⟩
          refine RL.call (shown_any a ha) Tryz.call13 rfl rfl rfl rfl rfl (by repeat (first | exact Pick.nil | apply Pick.take | apply Pick.leave)) (.inI m2 .nil) (.inl rfl) ?_
          rintro _ _ _ ⟨ob2, cap2, rfl, rfl, rfl, ho2⟩
          refine RL.call (rgcheck_e Br r (shF a) (ob2.map fun b => ⟨b, 0, none⟩) cap2 (min a.x.f.b.length 60) a.t hr hsf hsb (by omega) _ _ _ rfl rfl rfl) Tryz.call33 rfl rfl rfl rfl rfl (by repeat (first | exact Pick.nil | apply Pick.take | apply Pick.leave)) (Lend.own (by repeat (first | exact List.Mem.head _ | apply List.Mem.tail)) .nil) (.inr rfl) ?_
          rintro _ _ _ ⟨rfl, rfl, od', cd', rfl⟩
          refine RL.bin rfl rfl rfl rfl rfl rfl ?_
          refine RL.assign rfl rfl rfl rfl ?_
          refine RL.nil ?_
          refine NQ.seq ?_
          refine CW.only (.cons (k := 6) rfl .nil) ?_
          refine CW.ret ?_
          exact RQ.rea (fun _ h => h) (H' := GRI B ({ g with l := lookL B g (shF a) a.t, M := lookM g (shF a) a.t, cm := cm', D := chkD g.D (lookE g (shF a) a.t), ct := ct' }) Br ({ r with l := lkL Br.mo Br.ti (rK r (shF a) a.t) (rY r (shF a)) r.l r.M (shF a) a.t, M := lkM (rK r (shF a) a.t) (rY r (shF a)) r.l r.M (shF a) a.t, D := bump (lkE (rK r (shF a) a.t) (rY r (shF a)) r.l r.M (shF a) a.t) r.D, od := od', cd := cd' })) (by repeat (first | exact Rea.nil | (apply Rea.cons; (solve | (repeat (first | exact Del.here | apply Del.there)))))) (RQ.post (res1 rfl rfl) (.keep (.keep (.keep (.keep (.keep (.keep (.keep (.keep (.keep (.keep (.keep (.keep (.keep (.keep .nil)))))))))))))) ⟨E, { g with l := lookL B g (shF a) a.t, M := lookM g (shF a) a.t, cm := cm', D := chkD g.D (lookE g (shF a) a.t), ct := ct' }, { r with l := lkL Br.mo Br.ti (rK r (shF a) a.t) (rY r (shF a)) r.l r.M (shF a) a.t, M := lkM (rK r (shF a) a.t) (rY r (shF a)) r.l r.M (shF a) a.t, D := bump (lkE (rK r (shF a) a.t) (rY r (shF a)) r.l r.M (shF a) a.t) r.D, od := od', cd := cd' }, _, _, hlt, rfl, rfl, rfl, ⟨hg.t, hg.k, by rw [lookL_len]; exact hg.l, hcm', hg.y, hct'⟩, hA, .chk _ h9 rfl rfl rfl rfl rfl rfl rfl rfl rfl rfl⟩)
  ·
    refine CW.skip ?_
    refine NQ.seq ?_
    refine CW.only (.cons (k := 0) rfl (.cons (k := 1) rfl (.cons (k := 5) rfl (.cons (k := 7) rfl .nil)))) ?_
    refine CW.seq ?_
    refine CW.region (ef := []) (bk := []) ?_
    refine RL.fieldAddr fa_43_10 rfl rfl rfl rfl ?_
    refine RL.loadq Tryz.isAgg41 rfl rfl rfl rfl ?_
    refine RL.fieldAddr fa_43_10 rfl rfl rfl rfl ?_
    refine RL.loadq Tryz.isAgg41 rfl rfl rfl rfl ?_
    refine RL.lenS Tryz.runUnderlying41 rfl rfl rfl rfl ?_
    refine RL.min rfl rfl rfl rfl rfl ?_
    rw [min6]
    refine RL.slice (lo := 0) (hi := min a.ks.l.length 6) Tryz.runUnderlying41 Tryz.sizeOf3 rfl rfl rfl rfl rfl rfl (by omega) (by omega) ?_
    rw [few_all19, Nat.sub_zero, Nat.sub_zero]
    refine RL.assign rfl rfl rfl rfl ?_
    refine RL.nil ?_
    refine NQ.seq ?_
    refine CW.only (.cons (k := 0) rfl (.cons (k := 1) rfl (.cons (k := 5) rfl (.cons (k := 7) rfl (.cons (k := 8) rfl .nil))))) ?_
    refine CW.seq ?_
    refine CW.seq ?_
    refine CW.region (ef := []) (bk := []) ?_
    refine RL.fieldAddr fa_43_0 rfl rfl rfl rfl ?_
    refine RL.loadq Tryz.isAgg3 rfl rfl rfl rfl ?_
    refine RL.callvq (among_any a.d 9 (by omega) (by omega)) Tryz.call8 rfl rfl rfl rfl ?_
    refine RL.nil ?_
    refine NQ.seq ?_
    refine CW.block ?_
    refine CW.seq ?_
    refine CW.region (ef := []) (bk := []) ?_
    refine RL.bin rfl rfl rfl rfl rfl rfl ?_
    refine RL.assign rfl rfl rfl rfl ?_
    refine RL.nil ?_
    refine NQ.seq ?_
    refine CW.cond rfl (fun h6 => ?_) (fun h6 => ?_)
    · have hq := hA.roll a.s ha.e a.t a.g
      refine CW.seq ?_
      refine CW.regionD (.cons 0 (.cons 1 (.cons 2 (.cons 3 (.cons 4 (.cons 5 (.cons 6 (.cons 7 (.cons 9 (.cons 10 (.cons 11 (.cons 13 (.cons 14 (.cons 15 (.cons 16 (.cons 17 (.cons 18 (.cons 19 (.fork [8, 12] (fun k => (bif Nat.beq k 8 then (Sq.of [12, 20, 21, 22]) else (Sq.of [8, 20, 21, 22])))))))))))))))))))))) [8, 20] [8, 20] [0, 1, 2, 3, 4, 5, 6, 7, 9, 10, 11, 13, 14, 15, 16, 17, 18, 19, 21, 22] mixed (by kernel_rfl) ?_
      refine RL.move rfl rfl rfl rfl ?_
      refine RL.fieldAddr fa_43_1 rfl rfl rfl rfl ?_
      refine RL.loadTq Tryz.isAgg3 rfl rfl rfl rfl ?_
      refine RL.move rfl rfl rfl rfl ?_
      refine RL.fieldAddr fa_43_2 rfl rfl rfl rfl ?_
      refine RL.loadTq Tryz.isAgg3 rfl rfl rfl rfl ?_
      refine RL.fieldAddr fa_43_3 rfl rfl rfl rfl ?_
      refine RL.loadTq Tryz.isAgg3 rfl rfl rfl rfl ?_
      refine RL.move rfl rfl rfl rfl ?_
      refine RL.nilCheck rfl rfl rfl rfl ?_
      refine RL.fieldAddr fa_93_0 rfl rfl rfl rfl ?_
      refine RL.fieldAddr fa_43_1 rfl rfl rfl rfl ?_
      refine RL.loadTq Tryz.isAgg3 rfl rfl rfl rfl ?_
      refine RL.move rfl rfl rfl rfl ?_
      refine RL.fieldAddr fa_43_2 rfl rfl rfl rfl ?_
      refine RL.loadTq Tryz.isAgg3 rfl rfl rfl rfl ?_
      refine RL.fieldAddr fa_43_3 rfl rfl rfl rfl ?_
      refine RL.loadTq Tryz.isAgg3 rfl rfl rfl rfl ?_
      have h6 : amongN a.d 9 = 6 := by simp at h6; omega
      refine RL.fork ⟨?_, ?_, trivial⟩
      ·
        refine RL.callq (groll_any B g a.s a.e a.t a.g hg ha.e) Tryz.call29 rfl rfl rfl rfl rfl (.inr rfl) ?_
        rintro _ _ _ ⟨rfl, rfl, c', hc', rfl⟩
        refine RL.loadq Tryz.isAgg80 rfl rfl rfl rfl ?_
        refine RL.callq (rroll_any Br.y r.R r.ob r.cp a.s a.e a.t a.g hA.r hA.e (by omega)) Tryz.call30 rfl rfl rfl rfl rfl (.inr rfl) ?_
        rintro _ _ _ ⟨rfl, rfl, ob', cp', rfl⟩
        refine RL.bin rfl rfl rfl rfl rfl rfl ?_
        refine RL.assign rfl rfl rfl rfl ?_
        refine RL.nil ?_
        refine NQ.seq ?_
        refine CW.only (.cons (k := 0) rfl (.cons (k := 1) rfl (.cons (k := 5) rfl (.cons (k := 6) rfl .nil)))) ?_
        refine CW.ret ?_
        refine RQ.block ?_
        refine RQ.seq ?_
        exact RQ.rea (fun _ h => h) (H' := GRI B ({ g with T := rollT g.T a.s a.e a.t a.g, c := c' }) Br ({ r with R := rrollR r.R a.s a.e a.t a.g, ob := ob', cp := cp' })) (by repeat (first | exact Rea.nil | (apply Rea.cons; (solve | (repeat (first | exact Del.here | apply Del.there)))))) (RQ.post (res1 rfl rfl) (.keep (.keep (.keep (.keep (.keep (.keep (.keep (.keep (.keep (.keep (.keep (.keep (.keep (.keep .nil)))))))))))))) ⟨a.e, { g with T := rollT g.T a.s a.e a.t a.g, c := c' }, { r with R := rrollR r.R a.s a.e a.t a.g, ob := ob', cp := cp' }, _, _, ha.e, rfl, rfl, rfl, ⟨hq.1.t, hc', hg.l, hg.m, hg.y, hg.d⟩, hq.1, by rw [h6]; exact .roll rfl rfl rfl rfl rfl rfl rfl rfl rfl rfl⟩)
      ·
        refine RL.loadq Tryz.isAgg80 rfl rfl rfl rfl ?_
        refine RL.callq (groll_any B g a.s a.e a.t a.g hg ha.e) Tryz.call29 rfl rfl rfl rfl rfl (.inr rfl) ?_
        rintro _ _ _ ⟨rfl, rfl, c', hc', rfl⟩
        refine RL.callq (rroll_any Br.y r.R r.ob r.cp a.s a.e a.t a.g hA.r hA.e (by omega)) Tryz.call30 rfl rfl rfl rfl rfl (.inr rfl) ?_
        rintro _ _ _ ⟨rfl, rfl, ob', cp', rfl⟩
        refine RL.bin rfl rfl rfl rfl rfl rfl ?_
        refine RL.assign rfl rfl rfl rfl ?_
        refine RL.nil ?_
        refine NQ.seq ?_
        refine CW.only (.cons (k := 0) rfl (.cons (k := 1) rfl (.cons (k := 5) rfl (.cons (k := 6) rfl .nil)))) ?_
        refine CW.ret ?_
        refine RQ.block ?_
        refine RQ.seq ?_
        exact RQ.rea (fun _ h => h) (H' := GRI B ({ g with T := rollT g.T a.s a.e a.t a.g, c := c' }) Br ({ r with R := rrollR r.R a.s a.e a.t a.g, ob := ob', cp := cp' })) (by repeat (first | exact Rea.nil | (apply Rea.cons; (solve | (repeat (first | exact Del.here | apply Del.there)))))) (RQ.post (res1 rfl rfl) (.keep (.keep (.keep (.keep (.keep (.keep (.keep (.keep (.keep (.keep (.keep (.keep (.keep (.keep .nil)))))))))))))) ⟨a.e, { g with T := rollT g.T a.s a.e a.t a.g, c := c' }, { r with R := rrollR r.R a.s a.e a.t a.g, ob := ob', cp := cp' }, _, _, ha.e, rfl, rfl, rfl, ⟨hq.1.t, hc', hg.l, hg.m, hg.y, hg.d⟩, hq.1, by rw [h6]; exact .roll rfl rfl rfl rfl rfl rfl rfl rfl rfl rfl⟩)
    ·
      refine CW.seq ?_
      refine CW.region (ef := []) (bk := []) ?_
      refine RL.bin rfl rfl rfl rfl rfl rfl ?_
      refine RL.assign rfl rfl rfl rfl ?_
      refine RL.nil ?_
      refine NQ.seq ?_
      refine CW.only (.cons (k := 0) rfl (.cons (k := 1) rfl (.cons (k := 5) rfl (.cons (k := 8) rfl (.cons (k := 30) rfl (.cons (k := 55) rfl .nil)))))) ?_
      refine CW.cond rfl (fun h7 => ?_) (fun h7 => ?_)
      ·
        refine CW.seq ?_
        refine CW.regionD (Sq.of [0, 1, 2, 3, 4, 6, 7, 8, 9, 10, 11, 12, 13, 14, 15, 5, 16, 17, 18]) [5, 16] [5, 16] [0, 1, 2, 3, 4, 6, 7, 8, 9, 10, 11, 12, 13, 14, 15, 17, 18] mixed (by kernel_rfl) ?_
        refine RL.move rfl rfl rfl rfl ?_
        refine RL.fieldAddr fa_43_1 rfl rfl rfl rfl ?_
        refine RL.loadTq Tryz.isAgg3 rfl rfl rfl rfl ?_
        refine RL.fieldAddr fa_43_9 rfl rfl rfl rfl ?_
        first | refine RL.loadMT Tryz.isAgg40 Tryz.sizeOf40 rfl rfl rfl rfl (by assumption) ?_ | refine RL.loadAT Tryz.isAgg40 Tryz.sizeOf40 rfl rfl rfl rfl (by first | assumption | (apply RdsI.rds; assumption)) (by first | rfl | assumption | (simp only [List.length_map]; assumption) | (simp only [List.length_map, List.length_replicate, hal]; done) | (simp; done)) ?_
        refine RL.move rfl rfl rfl rfl ?_
        refine RL.fieldAddr fa_43_1 rfl rfl rfl rfl ?_
        refine RL.loadTq Tryz.isAgg3 rfl rfl rfl rfl ?_
        refine RL.fieldAddr fa_43_9 rfl rfl rfl rfl ?_
        refine RL.fieldAddr fa_40_0 rfl rfl rfl rfl ?_
        refine RL.loadTq Tryz.isAgg32 rfl rfl rfl rfl ?_
        refine RL.fieldAddr fa_43_9 rfl rfl rfl rfl ?_
        refine RL.fieldAddr fa_40_1 rfl rfl rfl rfl ?_
        refine RL.loadTq Tryz.isAgg33 rfl rfl rfl rfl ?_
        refine RL.buildS [_, _] Tryz.zeroValue85 pl_85 rfl rfl rfl rfl rfl ?_
        refine RL.callq (graise_any B g a.s a.m hg ha.m1) Tryz.call31 rfl rfl rfl rfl rfl (.inr rfl) ?_
        have h7 : amongN a.d 9 = 7 := by simp at h7; omega
        rintro _ _ _ ⟨rfl, rfl, c', cm', hc', hcm', rfl⟩
        refine RL.callq (rgraise_any Br r a.s a.m hr) Tryz.call32 rfl rfl rfl rfl rfl (.inr rfl) ?_
        rintro _ _ _ ⟨rfl, rfl, ob', cp', rfl⟩
        refine RL.bin rfl rfl rfl rfl rfl rfl ?_
        refine RL.assign rfl rfl rfl rfl ?_
        refine RL.nil ?_
        refine NQ.seq ?_
        refine CW.only (.cons (k := 0) rfl (.cons (k := 1) rfl (.cons (k := 5) rfl (.cons (k := 6) rfl .nil)))) ?_
        refine CW.ret ?_
        refine RQ.block ?_
        refine RQ.seq ?_
        have hq := hA.raise a.s ha.m1
        exact RQ.rea (fun _ h => h) (H' := GRI B ({ g with T := raiseT g.T a.s a.m.1, c := c', M := graM g a.s a.m, cm := cm' }) Br ({ r with R := rraiseR r.R a.s a.m.1, M := rraM r a.s a.m, ob := ob', cp := cp' })) (by repeat (first | exact Rea.nil | (apply Rea.cons; (solve | (repeat (first | exact Del.here | apply Del.there)))))) (RQ.post (res1 rfl rfl) (.keep (.keep (.keep (.keep (.keep (.keep (.keep (.keep (.keep (.keep (.keep (.keep (.keep (.keep .nil)))))))))))))) ⟨a.e, { g with T := raiseT g.T a.s a.m.1, c := c', M := graM g a.s a.m, cm := cm' }, { r with R := rraiseR r.R a.s a.m.1, M := rraM r a.s a.m, ob := ob', cp := cp' }, _, _, ha.e, rfl, rfl, rfl, ⟨hq.1.t, hc', hg.l, hcm', hg.y, hg.d⟩, hq.1, by rw [h7]; exact .raise rfl rfl rfl rfl rfl rfl rfl rfl rfl rfl⟩)
      ·
        refine CW.seq ?_
        refine CW.region (ef := []) (bk := []) ?_
        refine RL.bin rfl rfl rfl rfl rfl rfl ?_
        refine RL.assign rfl rfl rfl rfl ?_
        refine RL.nil ?_
        refine NQ.seq ?_
        refine CW.cond rfl (fun h8 => ?_) (fun h8 => ?_)
        ·
          refine CW.seq ?_
          refine CW.regionD (Sq.of [0, 1, 2, 3, 4, 5, 7, 10, 11, 12, 13, 14, 16, 6, 8, 9, 15, 17, 18, 19]) [6, 8, 9, 17] [8, 9, 17] [0, 1, 2, 3, 4, 5, 7, 10, 11, 12, 13, 14, 15, 16, 18, 19] mixed (by kernel_rfl) ?_
          refine RL.move rfl rfl rfl rfl ?_
          refine RL.fieldAddr fa_43_1 rfl rfl rfl rfl ?_
          refine RL.loadTq Tryz.isAgg3 rfl rfl rfl rfl ?_
          refine RL.fieldAddr fa_43_1 rfl rfl rfl rfl ?_
          refine RL.loadTq Tryz.isAgg3 rfl rfl rfl rfl ?_
          refine RL.callTq (root_any a.s) Tryz.call17 rfl rfl rfl rfl ?_
          refine RL.move rfl rfl rfl rfl ?_
          refine RL.move rfl rfl rfl rfl ?_
          refine RL.fieldAddr fa_43_1 rfl rfl rfl rfl ?_
          refine RL.loadTq Tryz.isAgg3 rfl rfl rfl rfl ?_
          refine RL.fieldAddr fa_43_1 rfl rfl rfl rfl ?_
          refine RL.loadTq Tryz.isAgg3 rfl rfl rfl rfl ?_
          refine RL.move rfl rfl rfl rfl ?_
          refine RL.buildOwn [] Tryz.runUnderlying41 Tryz.sizeOf3 Tryz.zeroValue3 rfl rfl (by decide) (by decide) rfl (by decide) rfl rfl rfl rfl rfl rfl ?_
          intro b2
          refine RL.appendA el_41 rfl rfl rfl rfl rfl rfl rfl (by first | exact ⟨(.take (Pick.none _)), rfl⟩ | exact ⟨(.leave (.take (Pick.none _))), rfl⟩ | exact ⟨(.leave (.leave (.take (Pick.none _)))), rfl⟩ | exact ⟨(.leave (.leave (.leave (.take (Pick.none _))))), rfl⟩ | exact ⟨(.leave (.leave (.leave (.leave (.take (Pick.none _)))))), rfl⟩ | exact ⟨(.leave (.leave (.leave (.leave (.leave (.take (Pick.none _))))))), rfl⟩ | exact ⟨(.leave (.leave (.leave (.leave (.leave (.leave (.take (Pick.none _)))))))), rfl⟩ | exact ⟨(.leave (.leave (.leave (.leave (.leave (.leave (.leave (.take (Pick.none _))))))))), rfl⟩ | exact ⟨(.leave (.leave (.leave (.leave (.leave (.leave (.leave (.leave (.take (Pick.none _)))))))))), rfl⟩ | exact ⟨(.leave (.leave (.leave (.leave (.leave (.leave (.leave (.leave (.leave (.take (Pick.none _))))))))))), rfl⟩) (Src.takeI m3 (by omega)) (ones_spec (ones_map (fun _ => rfl) _)) (by first | omega | (simp only [maxLen]; omega)) (by first | omega | (simp only [maxLen]; omega)) ?_
          intro ob1 cap1 ho1
          refine RL.call (gsource_any B g a.s (rootK a.s) (ob1.map fun b => ⟨b, 0, none⟩) cap1 (0 + min a.ks.l.length 6) (k6 a) hg (rootK_len _) (by omega) (by omega)) Tryz.call16 rfl rfl rfl rfl rfl (by repeat (first | exact Pick.nil | apply Pick.take | apply Pick.leave)) (Lend.ownE (by repeat (first | exact List.Mem.head _ | apply List.Mem.tail)) rfl (by rw [k6_min]; rfl) .nil) (.inr rfl) ?_
          have h8 : amongN a.d 9 = 8 := by simp at h8; omega
          rintro _ _ _ ⟨rfl, rfl, bk, c', cy', hc', hcy', rfl⟩
          refine RL.callTq (root_any a.s) Tryz.call17 rfl rfl rfl rfl ?_
          refine RL.call (rgsource_any Br r a.s (rootK a.s) a.ks.p a.ks.c (min a.ks.l.length 6) (k6 a) hr (rootK_len _) hk6 (by omega)) Tryz.call18 rfl rfl rfl rfl rfl (by repeat (first | exact Pick.nil | apply Pick.take | apply Pick.leave)) (by rw [← k6_min a]; exact Lend.takeI m3 ha.k1 (by omega) .nil) (.inr rfl) ?_
          rintro _ _ _ ⟨rfl, rfl, ob', cp', ow', cw', rfl⟩
          refine RL.bin rfl rfl rfl rfl rfl rfl ?_
          refine RL.assign rfl rfl rfl rfl ?_
          refine RL.nil ?_
          refine NQ.seq ?_
          refine CW.only (.cons (k := 0) rfl (.cons (k := 1) rfl (.cons (k := 5) rfl (.cons (k := 6) rfl .nil)))) ?_
          refine CW.ret ?_
          refine RQ.block ?_
          refine RQ.seq ?_
          have hq := hA.src a.s (rootK_len a.s) (k6 a) bk
          exact RQ.rea (fun _ h => h) (H' := GRI B ({ g with T := srcT g a.s (rootK a.s) (k6 a) bk, c := c', Y := srcY g a.s (k6 a), cy := cy' }) Br ({ r with R := rsrcR r.R a.s (rootK a.s) (k6 a), W := rsrcW r.R r.W a.s (k6 a), ob := ob', cp := cp', ow := ow', cw := cw' })) (by repeat (first | exact Rea.nil | (apply Rea.cons; (solve | (repeat (first | exact Del.here | apply Del.there)))))) (RQ.post (res1 rfl rfl) (.keep (.keep (.keep (.keep (.keep (.keep (.keep (.keep (.keep (.keep (.keep (.keep (.keep (.keep .nil)))))))))))))) ⟨a.e, { g with T := srcT g a.s (rootK a.s) (k6 a) bk, c := c', Y := srcY g a.s (k6 a), cy := cy' }, { r with R := rsrcR r.R a.s (rootK a.s) (k6 a), W := rsrcW r.R r.W a.s (k6 a), ob := ob', cp := cp', ow := ow', cw := cw' }, _, _, ha.e, rfl, rfl, rfl, ⟨hq.1.t, hc', hg.l, hg.m, hcy', hg.d⟩, hq.1, by rw [h8]; exact .src bk rfl rfl rfl rfl rfl rfl rfl rfl rfl rfl⟩)
        ·
          refine CW.skip ?_
          refine NQ.block ?_
          refine NQ.seq ?_
          refine CW.seq ?_
          refine CW.regionD (Sq.of [0, 1, 2, 3, 6, 7, 8, 9, 4, 5, 10, 11, 12, 13]) [4, 5, 10, 11] [5, 11] [0, 1, 2, 3, 6, 7, 8, 9, 12, 13] mixed (by kernel_rfl) ?_
          refine RL.move rfl rfl rfl rfl ?_
          refine RL.fieldAddr fa_43_2 rfl rfl rfl rfl ?_
          refine RL.loadTq Tryz.isAgg3 rfl rfl rfl rfl ?_
          first | refine RL.loadMT Tryz.isAgg43 Tryz.sizeOf43 rfl rfl rfl rfl (by assumption) ?_ | refine RL.loadAT Tryz.isAgg43 Tryz.sizeOf43 rfl rfl rfl rfl (by first | assumption | (apply RdsI.rds; assumption)) (by first | rfl | assumption | (simp only [List.length_map]; assumption) | (simp only [List.length_map, List.length_replicate, hal]; done) | (simp; done)) ?_
          refine RL.move rfl rfl rfl rfl ?_
          refine RL.fieldAddr fa_43_2 rfl rfl rfl rfl ?_
          refine RL.loadTq Tryz.isAgg3 rfl rfl rfl rfl ?_
          first | refine RL.loadMT Tryz.isAgg43 Tryz.sizeOf43 rfl rfl rfl rfl (by assumption) ?_ | refine RL.loadAT Tryz.isAgg43 Tryz.sizeOf43 rfl rfl rfl rfl (by first | assumption | (apply RdsI.rds; assumption)) (by first | rfl | assumption | (simp only [List.length_map]; assumption) | (simp only [List.length_map, List.length_replicate, hal]; done) | (simp; done)) ?_
          refine RL.call (shown_any a ha) Tryz.call13 rfl rfl rfl rfl rfl (by repeat (first | exact Pick.nil | apply Pick.take | apply Pick.leave)) (.inI m2 .nil) (.inl rfl) ?_
          rintro _ _ _ ⟨ob1, cap1, rfl, rfl, rfl, ho1⟩
          refine RL.call (gcheck_any B g (shF a) (ob1.map fun b => ⟨b, 0, none⟩) cap1 (min a.x.f.b.length 60) a.t hmo hg hsf hsb (by omega)) Tryz.call14 rfl rfl rfl rfl rfl (by repeat (first | exact Pick.nil | apply Pick.take | apply Pick.leave)) (Lend.own (by repeat (first | exact List.Mem.head _ | apply List.Mem.tail)) .nil) (.inr rfl) ?_
          have h9 : amongN a.d 9 < 6 := by have := amongN_lt (x := a.d) (n := 9) (by omega); simp at h6 h7 h8; omega
          rintro _ _ _ ⟨rfl, rfl, cm', ct', hcm', hct', rfl⟩
          refine RL.call (shown_any a ha) Tryz.call13 rfl rfl rfl rfl rfl (by repeat (first | exact Pick.nil | apply Pick.take | apply Pick.leave)) (.inI m2 .nil) (.inl rfl) ?_
          rintro _ _ _ ⟨ob2, cap2, rfl, rfl, rfl, ho2⟩
          refine RL.call (rgcheck_e Br r (shF a) (ob2.map fun b => ⟨b, 0, none⟩) cap2 (min a.x.f.b.length 60) a.t hr hsf hsb (by omega) _ _ _ rfl rfl rfl) Tryz.call33 rfl rfl rfl rfl rfl (by repeat (first | exact Pick.nil | apply Pick.take | apply Pick.leave)) (Lend.own (by repeat (first | exact List.Mem.head _ | apply List.Mem.tail)) .nil) (.inr rfl) ?_
          rintro _ _ _ ⟨rfl, rfl, od', cd', rfl⟩
          refine RL.bin rfl rfl rfl rfl rfl rfl ?_
          refine RL.assign rfl rfl rfl rfl ?_
          refine RL.nil ?_
          refine NQ.seq ?_
          refine CW.only (.cons (k := 6) rfl .nil) ?_
          refine CW.ret ?_
          exact RQ.rea (fun _ h => h) (H' := GRI B ({ g with l := lookL B g (shF a) a.t, M := lookM g (shF a) a.t, cm := cm', D := chkD g.D (lookE g (shF a) a.t), ct := ct' }) Br ({ r with l := lkL Br.mo Br.ti (rK r (shF a) a.t) (rY r (shF a)) r.l r.M (shF a) a.t, M := lkM (rK r (shF a) a.t) (rY r (shF a)) r.l r.M (shF a) a.t, D := bump (lkE (rK r (shF a) a.t) (rY r (shF a)) r.l r.M (shF a) a.t) r.D, od := od', cd := cd' })) (by repeat (first | exact Rea.nil | (apply Rea.cons; (solve | (repeat (first | exact Del.here | apply Del.there)))))) (RQ.post (res1 rfl rfl) (.keep (.keep (.keep (.keep (.keep (.keep (.keep (.keep (.keep (.keep (.keep (.keep (.keep (.keep .nil)))))))))))))) ⟨a.e, { g with l := lookL B g (shF a) a.t, M := lookM g (shF a) a.t, cm := cm', D := chkD g.D (lookE g (shF a) a.t), ct := ct' }, { r with l := lkL Br.mo Br.ti (rK r (shF a) a.t) (rY r (shF a)) r.l r.M (shF a) a.t, M := lkM (rK r (shF a) a.t) (rY r (shF a)) r.l r.M (shF a) a.t, D := bump (lkE (rK r (shF a) a.t) (rY r (shF a)) r.l r.M (shF a) a.t) r.D, od := od', cd := cd' }, _, _, ha.e, rfl, rfl, rfl, ⟨hg.t, hg.k, by rw [lookL_len]; exact hg.l, hcm', hg.y, hct'⟩, hA, .chk _ h9 rfl rfl rfl rfl rfl rfl rfl rfl rfl rfl⟩)
end Go.Proofs.YtkkfdoippibfkaaGreat
