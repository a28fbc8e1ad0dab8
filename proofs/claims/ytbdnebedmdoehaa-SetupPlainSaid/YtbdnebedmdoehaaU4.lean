import Derived.Test.YtbdnebedmdoehaaU3
import Derived.Test.YtbdnebedmdoehaaPkEn
import Derived.Test.YtbdnebedmdoehaaPE
namespace Go.Proofs.Ytbdnebedmdoehaa
open Go.PK
/-! ### Aids -/
theorem flat_rdsN {I : List It} {b n sz i : Nat} {α : Type} {f : α → List Value} {R : List α} {x : α} (hm : sls (some ⟨b, 0, none⟩) sz n (R.flatMap f) ∈ I) (hx : R[i]? = some x) (hf : ∀ y ∈ R, (f y).length = sz) : RdsN I ⟨b, 0 + i * sz, none⟩ sz (f x) :=
  ⟨fun H => by
    have h := Rds.part (H := H) (j := i * sz) (vs := f x) (Rds.sls hm) (fun q u hu => by
      have hlt : q < sz := by have := (List.getElem?_eq_some_iff.1 hu).1; rwa [hf x (List.mem_of_getElem? hx)] at this
      rw [get_flat (f := f) (n := sz) hf hx hlt]; exact hu)
    rwa [add_none] at h, hf x (List.mem_of_getElem? hx)⟩
theorem flat_rdI {I : List It} {b n sz i j : Nat} {α : Type} {f : α → List Value} {R : List α} {x : α} {v : Value} (hm : sls (some ⟨b, 0, none⟩) sz n (R.flatMap f) ∈ I) (hx : R[i]? = some x) (hf : ∀ y ∈ R, (f y).length = sz) (hv : (f x)[j]? = some v) : RdI I ⟨b, 0 + i * sz + j, none⟩ v :=
  ⟨fun H => by
    have h := ((flat_rdsN hm hx hf).h H).rd hv
    rwa [add_none] at h⟩
def goodI (v : Value) : Prop := ∃ n, v = .int .i64 n
theorem keyI : KeyT Try.prog 3 goodI where
  desc := ⟨_, Try.runUnderlying3, fun a b ha hb => by
    obtain ⟨m, rfl⟩ := ha; obtain ⟨n, rfl⟩ := hb
    by_cases h : m = n <;> simp [Instr.sameNow, same, h]⟩
  eq := by
    rintro _ _ ⟨a, rfl⟩ ⟨c, rfl⟩ w
    by_cases h : a = c <;> simp [Op.equal, Op.maxDepth, same, h, Go.part, go_sem]
  chk := by
    rintro _ ⟨a, rfl⟩ e w
    have : ∀ n, (Instr.checkKey e (n + 2) 3 (.int .i64 a)).run Try.prog w = .ok () w := by
      intro n
      simp [Instr.checkKey, Go.part, go_sem]
    exact this 9998
  bits := by
    rintro _ ⟨a, rfl⟩
    simp [Instr.sameBits]
structure Ad where
  src : Int
  kd : Int
  w : Int
  g : Int
  st : Int
  lm : Int
  hz : Int
def Ad.cells (a : Ad) : List Value := [.int .i64 a.src, .int .i64 a.kd, .int .i64 a.w, .int .i64 a.g, .int .i64 a.st, .int .i64 a.lm, .int .i64 a.hz]
def Ad.ok (a : Ad) : Bool := decide ((0 ≤ a.src ∧ a.src ≤ 7) ∧ (2 ≤ a.kd ∧ a.kd ≤ 5) ∧ (0 ≤ a.w ∧ a.w ≤ 16) ∧ (0 ≤ a.g ∧ a.g ≤ 16 ∧ 0 ≤ a.st ∧ 0 ≤ a.lm ∧ 1 ≤ a.hz ∧ a.hz ≤ 65535))
def wasA (L : List Ad) : Nat → Int
  | 0 => -1
  | i + 1 => match L[i]? with
    | some a => a.src
    | none => 0
def stepA (L : List Ad) (j : Nat) : Bool := match L[j]? with
  | some a => a.ok && decide (wasA L j < a.src)
  | none => true
def adsB (L : List Ad) : Bool := (List.range L.length).all (stepA L)
theorem adsB_iff {L : List Ad} : adsB L = true ↔ ∀ j, stepA L j = true := by
  rw [adsB, List.all_eq_true]
  constructor
  · intro h j
    by_cases hj : j < L.length
    · exact h j (List.mem_range.2 hj)
    · rw [stepA, List.getElem?_eq_none (by omega)]
  · exact fun h j _ => h j
theorem stepA_at {L : List Ad} {j : Nat} {a : Ad} (h : L[j]? = some a) : stepA L j = (a.ok && decide (wasA L j < a.src)) := by rw [stepA, h]
theorem wasA_at {L : List Ad} {j : Nat} {a : Ad} (h : L[j]? = some a) : wasA L (j + 1) = a.src := by rw [wasA, h]
theorem aright_any (a : Ad) : Spc Try.prog 76 #[.agg #[.int .i64 a.src, .int .i64 a.kd, .int .i64 a.w, .int .i64 a.g, .int .i64 a.st, .int .i64 a.lm, .int .i64 a.hz]] [] [] (Is (.bool a.ok)) := by
  refine Spc.enter Try.func76 rfl rfl rfl (fun w0 hw0 => ?_)
  refine CW.seq (CW.region (ef := [0]) (bk := []) (RL.box rfl rfl rfl rfl rfl rfl ?_))
  intro b1
  refine RL.p rfl (RL.nil (NQ.seq (CW.seq (CW.freezeP (A := [_]) (B := []) (.take .nil) rfl ?_))))
  refine CW.genI (fun J hJ => ?_)
  have m : cel b1 a.cells 132 ∈ J := hJ _ (by simp [Ad.cells])
  clear hJ
  have f0 : RdI J ⟨b1, 0 + 0, none⟩ (.int .i64 a.src) := ⟨fun _ => Rd.celI m rfl⟩
  have f1 : RdI J ⟨b1, 0 + 1, none⟩ (.int .i64 a.kd) := ⟨fun _ => Rd.celI m rfl⟩
  have f2 : RdI J ⟨b1, 0 + 2, none⟩ (.int .i64 a.w) := ⟨fun _ => Rd.celI m rfl⟩
  have f3 : RdsN J ⟨b1, 0 + 3, none⟩ 4 [.int .i64 a.g, .int .i64 a.st, .int .i64 a.lm, .int .i64 a.hz] := RdsN.told m (fun j u hj => by
    match j, hj with
    | 0, hj => exact hj
    | 1, hj => exact hj
    | 2, hj => exact hj
    | 3, hj => exact hj
    | j + 4, hj => simp at hj) rfl
  refine CW.rg (RL.fieldAddr fa_132_0 rfl rfl rfl rfl (RL.loadq Try.isAgg3 rfl rfl rfl rfl ?_))
  refine RL.p rfl (RL.p rfl ?_)
  apply RL.andB (d := 6) (dp := 10) (l' := (Sq.of [8, 9, 10, 11, 12, 13, 14, 15, 16, 17, 18, 19, 20, 21, 22, 23, 24, 25, 26, 27, 28, 29, 30, 31, 32, 33, 34])) rfl (sK [1, 2] rfl)
  ·
    intro hb4 K4
    refine RL.fieldAddr fa_132_0 rfl rfl rfl rfl (RL.loadq Try.isAgg3 rfl rfl rfl rfl ?_)
    refine RL.p rfl (RL.p rfl ?_)
    exact K4 _ (.cons rfl (sK [1, 2] rfl))
  ·
    intro hb4 K4
    refine RL.p rfl (RL.p rfl (RL.p rfl (RL.p rfl ?_)))
    exact K4 _ (.cons rfl (sK [1, 2] rfl))
  refine RL.p rfl ?_
  apply RL.andB (d := 11) (dp := 15) (l' := (Sq.of [13, 14, 15, 16, 17, 18, 19, 20, 21, 22, 23, 24, 25, 26, 27, 28, 29, 30, 31, 32, 33, 34])) rfl (sK [1, 2] rfl)
  ·
    intro hb9 K9
    refine RL.fieldAddr fa_132_1 rfl rfl rfl rfl (RL.loadq Try.isAgg3 rfl rfl rfl rfl ?_)
    refine RL.p rfl (RL.p rfl ?_)
    exact K9 _ (.cons rfl (sK [1, 2] rfl))
  ·
    intro hb9 K9
    refine RL.p rfl (RL.p rfl (RL.p rfl (RL.p rfl ?_)))
    exact K9 _ (.cons rfl (sK [1, 2] rfl))
  refine RL.p rfl ?_
  apply RL.andB (d := 16) (dp := 20) (l' := (Sq.of [18, 19, 20, 21, 22, 23, 24, 25, 26, 27, 28, 29, 30, 31, 32, 33, 34])) rfl (sK [1, 2] rfl)
  ·
    intro hb14 K14
    refine RL.fieldAddr fa_132_1 rfl rfl rfl rfl (RL.loadq Try.isAgg3 rfl rfl rfl rfl ?_)
    refine RL.p rfl (RL.p rfl ?_)
    exact K14 _ (.cons rfl (sK [1, 2] rfl))
  ·
    intro hb14 K14
    refine RL.p rfl (RL.p rfl (RL.p rfl (RL.p rfl ?_)))
    exact K14 _ (.cons rfl (sK [1, 2] rfl))
  refine RL.p rfl ?_
  apply RL.andB (d := 21) (dp := 25) (l' := (Sq.of [23, 24, 25, 26, 27, 28, 29, 30, 31, 32, 33, 34])) rfl (sK [1, 2] rfl)
  ·
    intro hb19 K19
    refine RL.fieldAddr fa_132_2 rfl rfl rfl rfl (RL.loadq Try.isAgg3 rfl rfl rfl rfl ?_)
    refine RL.p rfl (RL.p rfl ?_)
    exact K19 _ (.cons rfl (sK [1, 2] rfl))
  ·
    intro hb19 K19
    refine RL.p rfl (RL.p rfl (RL.p rfl (RL.p rfl ?_)))
    exact K19 _ (.cons rfl (sK [1, 2] rfl))
  refine RL.p rfl ?_
  apply RL.andB (d := 26) (dp := 30) (l' := (Sq.of [28, 29, 30, 31, 32, 33, 34])) rfl (sK [1, 2] rfl)
  ·
    intro hb24 K24
    refine RL.fieldAddr fa_132_2 rfl rfl rfl rfl (RL.loadq Try.isAgg3 rfl rfl rfl rfl ?_)
    refine RL.p rfl (RL.p rfl ?_)
    exact K24 _ (.cons rfl (sK [1, 2] rfl))
  ·
    intro hb24 K24
    refine RL.p rfl (RL.p rfl (RL.p rfl (RL.p rfl ?_)))
    exact K24 _ (.cons rfl (sK [1, 2] rfl))
  refine RL.p rfl ?_
  apply RL.andB (d := 31) (dp := 36) (l' := (Sq.of [34])) rfl (sK [2] rfl)
  ·
    intro hb29 K29
    refine RL.fieldAddr fa_132_3 rfl rfl rfl rfl (RL.loadSq Try.isAgg130 Try.sizeOf130 rfl rfl rfl rfl ?_)
    refine RL.callvq (rule_any a.g a.st a.lm a.hz) Try.call105 rfl rfl rfl rfl ?_
    refine RL.p rfl (RL.p rfl ?_)
    exact K29 _ (.cons rfl (sK [2] rfl))
  ·
    intro hb29 K29
    refine RL.p rfl (RL.p rfl (RL.p rfl (RL.p rfl (RL.p rfl ?_))))
    exact K29 _ (.cons rfl (sK [2] rfl))
  refine RL.p rfl (RL.nil (NQ.seq (CW.ret ?_)))
  refine RQ.post (res1 rfl rfl) (Split.none _) ⟨?_, rfl, rfl⟩
  congr 1
  rw [Bool.eq_iff_iff]
  simp [Ad.ok, errI_0]
  omega
def sameM (i : Nat) : List Value := (List.range 9).map fun j => .int .i64 (if j % 4 = 0 ∧ j < 4 * i then 4294967296 else 0)
theorem same_any' : Spc Try.prog 104 #[] [] [] (Is (.agg (sameM 3).toArray)) := by
  refine Spc.enter Try.func104 rfl rfl rfl (fun w0 hw0 => ?_)
  refine CW.seq (CW.region (ef := [0]) (bk := []) (RL.alloc Try.zeroValue165 rfl rfl rfl rfl rfl ?_))
  intro b1
  refine RL.nil (NQ.seq (CW.seq (CW.region (ef := [0]) (bk := []) (RL.alloc Try.zeroValue165 rfl rfl rfl rfl rfl ?_))))
  intro b2
  refine RL.nil (NQ.seq (CW.seq (CW.seq (CW.rg (RL.p rfl (RL.nil (NQ.seq (CW.block (CW.loop (γ := Nat) (fun i => i ≤ 3) (fun i => [(0, .pointer (some ⟨b1, 0, none⟩)), (1, .pointer (some ⟨b2, 0, none⟩)), (3, .int .i64 (i : Int))]) (fun _ => []) (fun i => [cel b1 (sameM 0) 165, cel b2 (sameM i) 165]) (fun i => 3 - i) 0 (by omega) (.cons rfl (.cons rfl (.cons rfl .nil))) (fun w h => h.rea (fun _ h => h) (by repeat (first | exact Rea.nil | (apply Rea.cons; (solve | (repeat (first | exact Del.here | apply Del.there))))))) ?_)))))))))
  intro i hi
  refine CW.seq (CW.rg (RL.p rfl (RL.nil (NQ.seq (CW.seq ?_)))))
  refine CW.cond rfl (fun hlt => ?_) (fun hlt => ?_)
  ·
    have hlt : i < 3 := by simp at hlt; omega
    have hfit : (0 + i * 3 + i * 1 + [Value.int .i64 4294967296].length).ble (sameM i).length = true := by
      rw [Nat.ble_eq]; show 0 + i * 3 + i * 1 + 1 ≤ 9; omega
    have hsm : spl (sameM i) (0 + i * 3 + i * 1) [.int .i64 4294967296] = sameM (i + 1) := by
      rcases i with _ | _ | _ | i
      · rfl
      · rfl
      · rfl
      · omega
    refine CW.skip (NQ.seq (CW.seq (CW.block (CW.seq (CW.rg (RL.p rfl (RL.p rfl (RL.nil (NQ.seq (CW.region (ef := [4]) (bk := [4]) (RL.p rfl (RL.p rfl (RL.idxAAt (j := i) Try.runUnderlying165 Try.sizeOf26 rfl rfl rfl rfl rfl rfl hlt ?_)))))))))))))
    refine RL.idxAAt (j := i) Try.runUnderlying26 Try.sizeOf24 rfl rfl rfl rfl rfl rfl hlt (RL.store Try.sizeOf24 rfl rfl rfl rfl rfl rfl rfl rfl hfit (by repeat (first | exact Upd.here | apply Upd.there)) ?_)
    refine RL.nil (NQ.block (NQ.seq (CW.ok [0, 1, 3] rfl (CW.rg (RL.bx rfl (wrapV_i64 (by omega) (by omega)) ?_)))))
    refine RL.p rfl (RL.nil ?_)
    refine NQ.round (g := i) (i + 1) hlt (by show 3 - (i + 1) < 3 - i; omega) (.cons rfl (.cons rfl (.cons rfl .nil))) (fun w h => ?_)
    rw [← hsm]
    exact h.rea (fun _ h => h) (by repeat (first | exact Rea.nil | (apply Rea.cons; (solve | (repeat (first | exact Del.here | apply Del.there))))))
  ·
    have hin : i = 3 := by simp at hlt; omega
    subst hin
    refine CW.exit (XQ.seq (XQ.seq (XQ.hit (NQ.seq (CW.seq (CW.region (ef := [1]) (bk := [1]) (RL.loadSq Try.isAgg165 Try.sizeOf165 rfl rfl rfl rfl ?_)))))))
    refine RL.store (vs := [_, _, _, _, _, _, _, _, _]) Try.sizeOf165 rfl rfl rfl rfl rfl rfl rfl rfl rfl (by repeat (first | exact Upd.here | apply Upd.there)) ?_
    refine RL.nil (NQ.seq (CW.ret ?_))
    exact RQ.post (resW rfl rfl Try.isAgg165 Try.sizeOf165 (by repeat (first | exact List.Mem.head _ | apply List.Mem.tail)) rfl) (Split.none _) ⟨rfl, rfl, rfl⟩
theorem att_any : Spc Try.prog 75 #[] [] [] (Is (.agg #[.int .i64 4294967296, .int .i64 0, .int .i64 0, .int .i64 0, .int .i64 4294967296, .int .i64 0, .int .i64 0, .int .i64 0, .int .i64 4294967296, .int .i64 0])) := by
  refine Spc.enter Try.func75 rfl rfl rfl (fun w0 hw0 => ?_)
  refine CW.seq (CW.region (ef := [0]) (bk := []) (RL.alloc Try.zeroValue167 rfl rfl rfl rfl rfl ?_))
  intro b1
  refine RL.nil (NQ.seq (CW.seq (CW.region (ef := [2]) (bk := [2]) (RL.callvq (same_any') Try.call104 rfl rfl rfl rfl ?_))))
  refine RL.buildS [_, _, _, _, _, _, _, _, _, _] Try.zeroValue167 pl_167 rfl rfl rfl rfl rfl (RL.store (vs := [_, _, _, _, _, _, _, _, _, _]) Try.sizeOf167 rfl rfl rfl rfl rfl rfl rfl rfl rfl (by repeat (first | exact Upd.here | apply Upd.there)) ?_)
  refine RL.nil (NQ.seq (CW.ret ?_))
  exact RQ.post (resW rfl rfl Try.isAgg167 Try.sizeOf167 (by repeat (first | exact List.Mem.head _ | apply List.Mem.tail)) rfl) (Split.none _) ⟨rfl, rfl, rfl⟩
theorem nav_any (g0 g1 g2 dr : Int) (oa : Option Nat) (ca n : Nat) (L : List Ad) (hn : L.length = n) (hl : n ≤ 1000000) :
    Spc Try.prog 45 #[.agg #[.int .i64 g0, .int .i64 g1, .int .i64 g2, .int .i64 dr, slO oa n ca]] [sls (oa.map fun b => ⟨b, 0, none⟩) 7 n (L.flatMap Ad.cells)] [] (ErP (errI (0 ≤ dr ∧ L.length ≤ 8 ∧ adsB L = true))) := by
  subst hn
  refine Spc.enter Try.func45 rfl rfl rfl (fun w0 hw0 => ?_)
  refine CW.seq (CW.region (ef := [0]) (bk := []) (RL.box rfl rfl rfl rfl rfl rfl ?_))
  intro b1
  refine RL.p rfl (RL.p rfl (RL.nil (NQ.seq (CW.seq (CW.seq (CW.freezeAll rfl ?_))))))
  simp only [List.cons_append, List.nil_append]
  generalize hJ : ([cel b1 [.int .i64 g0, .int .i64 g1, .int .i64 g2, .int .i64 dr, slO oa L.length ca] 66, sls (oa.map fun b => ⟨b, 0, none⟩) 7 L.length (L.flatMap Ad.cells)] : List It) = J
  have m1 : cel b1 [.int .i64 g0, .int .i64 g1, .int .i64 g2, .int .i64 dr, slO oa L.length ca] 66 ∈ J := by rw [← hJ]; exact (by repeat (first | exact List.Mem.head _ | apply List.Mem.tail))
  have m2 : sls (oa.map fun b => ⟨b, 0, none⟩) 7 L.length (L.flatMap Ad.cells) ∈ J := by rw [← hJ]; exact (by repeat (first | exact List.Mem.head _ | apply List.Mem.tail))
  clear hJ
  have fG : RdsN J ⟨b1, 0 + 0, none⟩ 3 [.int .i64 g0, .int .i64 g1, .int .i64 g2] := RdsN.told m1 (fun j u hj => by
    match j, hj with
    | 0, hj => exact hj
    | 1, hj => exact hj
    | 2, hj => exact hj
    | j + 3, hj => simp at hj) rfl
  have fD : RdI J ⟨b1, 0 + 3, none⟩ (.int .i64 dr) := ⟨fun _ => Rd.celI m1 rfl⟩
  have fS : RdI J ⟨b1, 0 + 4, none⟩ (slO oa L.length ca) := ⟨fun _ => Rd.celI m1 rfl⟩
  refine CW.rg (RL.fieldAddr fa_66_1 rfl rfl rfl rfl (RL.loadq Try.isAgg24 rfl rfl rfl rfl ?_))
  refine RL.p rfl (RL.p rfl ?_)
  apply RL.orB (d := 11) (dp := 16) (l' := (Sq.of [])) rfl (sK [1, 2, 3] rfl)
  ·
    intro hb4 K4
    refine RL.fieldAddr fa_66_2 rfl rfl rfl rfl (RL.loadq Try.isAgg64 rfl rfl rfl rfl ?_)
    refine RL.lenS Try.runUnderlying64 rfl rfl rfl rfl (RL.p rfl (RL.p rfl ?_))
    exact K4 _ (.cons rfl (sK [1, 2, 3] rfl))
  ·
    intro hb4 K4
    refine RL.p rfl (RL.p rfl (RL.p rfl (RL.p rfl (RL.p rfl ?_))))
    exact K4 _ (.cons rfl (sK [1, 2, 3] rfl))
  refine RL.nil (NQ.seq ?_)
  refine CW.cond rfl (fun h1 => ?_) (fun h1 => ?_)
  ·
    refine CW.seq (CW.rg (RL.p rfl (RL.p rfl (RL.nil (NQ.seq (CW.ret (RQ.seq ?_)))))))
    exact RQ.post (res2 rfl rfl rfl) (Split.none _) ⟨_, by rw [errI_no (by simp at h1; omega)], rfl, rfl⟩
  ·
    refine CW.skip (NQ.seq (CW.seq (CW.regionD (Sq.of [0, 1, 2, 3, 4, 5, 6, 7, 8]) [5, 7] [] [0, 1, 2, 3, 4, 6, 8] mixed (by kernel_rfl) ?_)))
    refine RL.fieldAddr fa_66_0 rfl rfl rfl rfl (RL.loadSTq Try.isAgg26 Try.sizeOf26 rfl rfl rfl rfl ?_)
    refine RL.fieldAddr fa_66_1 rfl rfl rfl rfl (RL.loadTq Try.isAgg24 rfl rfl rfl rfl ?_)
    refine RL.callTq (att_any) Try.call75 rfl rfl rfl rfl ?_
    refine RL.makeMap (good := goodI) rfl rfl rfl rfl (fun mp => ?_)
    refine RL.buildS [_, _, _, _, _, _, _, _, _, _, _, _, _, _, _, _, _, _, _, _, _, _, _, _, _] Try.zeroValue171 pl_171 rfl rfl rfl rfl rfl (RL.box rfl rfl rfl rfl rfl rfl ?_)
    intro b2
    refine RL.p rfl (RL.nil (NQ.seq (CW.ok [1, 4] rfl (CW.seq (CW.rg (RL.p rfl (RL.nil (NQ.seq (CW.seq (CW.seq (CW.rg (RL.fieldAddr fa_66_2 rfl rfl rfl rfl (RL.loadq Try.isAgg64 rfl rfl rfl rfl ?_)))))))))))))
    refine RL.lenS Try.runUnderlying64 rfl rfl rfl rfl (RL.p rfl (RL.nil (NQ.seq (CW.block ?_))))
    have h1 : 0 ≤ dr ∧ L.length ≤ 8 := by simp at h1; omega
    refine CW.freezeP (A := [_]) (B := [mapI mp goodI []]) (by repeat (first | exact Pick.nil | apply Pick.take | apply Pick.leave)) rfl ?_
    refine CW.genI (fun J2 hJ2 => ?_)
    have hJ12 : ∀ x ∈ J, x ∈ J2 := fun x hx => hJ2 x (by simp [hx])
    have mN := hJ2 _ (List.Mem.head _)
    have m3 := hJ12 _ m2
    clear hJ2
    have fM : RdI J2 ⟨b2, 0 + 20, none⟩ (.map (some mp)) := ⟨fun _ => Rd.celI mN rfl⟩
    clear fG fD fS m1 m2
    refine CW.loop (γ := Nat × List (Value × Value)) (fun g => g.1 ≤ L.length ∧ (∀ j < g.1, stepA L j = true)) (fun g => [(4, .pointer (some ⟨b2, 0, none⟩)), (5, .int .i64 (wasA L g.1)), (26, slO oa L.length ca), (27, .int .i64 (L.length : Int)), (28, .int .i64 (g.1 : Int))]) (fun _ => J2) (fun g => [mapI mp goodI g.2]) (fun g => L.length - g.1) (0, []) ⟨Nat.zero_le _, fun j h => by omega⟩ (.cons rfl (.cons rfl (.cons rfl (.cons rfl (.cons rfl .nil))))) (fun w h => h.rea (fun _ h => h) (by repeat (first | exact Rea.nil | (apply Rea.cons; (solve | (repeat (first | exact Del.here | apply Del.there))))))) ?_
    rintro ⟨i, c⟩ ⟨hi, hok⟩
    dsimp only at hi hok ⊢
    refine CW.fact (p := oa = none → L.length = 0) (fun w hC e => sls_nil (hC.s.i _ m3) (by rw [e]; rfl)) (fun hpa => ?_)
    refine CW.seq (CW.rg (RL.p rfl (RL.nil (NQ.seq (CW.seq ?_)))))
    refine CW.cond rfl (fun hlt => ?_) (fun hlt => ?_)
    ·
      have hlt : i < L.length := by simp at hlt; omega
      cases oa with
      | none => exact absurd (hpa rfl) (by omega)
      | some ba =>
      have hx := List.getElem?_eq_getElem hlt
      generalize L[i] = a at hx
      have fA : RdsN J2 ⟨ba, 0 + i * 7, none⟩ 7 [.int .i64 a.src, .int .i64 a.kd, .int .i64 a.w, .int .i64 a.g, .int .i64 a.st, .int .i64 a.lm, .int .i64 a.hz] := flat_rdsN (f := Ad.cells) m3 hx (fun _ _ => rfl)
      refine CW.skip (NQ.seq (CW.seq (CW.block (CW.seq (CW.region (ef := [2, 3]) (bk := [3]) (RL.idxAt (j := i) Try.runUnderlying64 Try.sizeOf132 rfl rfl rfl rfl rfl rfl (hlt) (RL.loadSq Try.isAgg132 Try.sizeOf132 rfl rfl rfl rfl ?_)))))))
      refine RL.alloc Try.zeroValue132 rfl rfl rfl rfl rfl ?_
      intro b3
      refine RL.store (vs := [_, _, _, _, _, _, _]) Try.sizeOf132 rfl rfl rfl rfl rfl rfl rfl rfl rfl (by repeat (first | exact Upd.here | apply Upd.there)) ?_
      refine RL.nil (NQ.seq (CW.seq (CW.seq (CW.rg (RL.loadSq Try.isAgg132 Try.sizeOf132 rfl rfl rfl rfl ?_)))))
      refine RL.callvq (aright_any a) Try.call76 rfl rfl rfl rfl ?_
      refine RL.p rfl (RL.p rfl ?_)
      apply RL.orB (d := 35) (dp := 40) (l' := (Sq.of [])) rfl (sK [4, 5, 7, 26, 27, 28] rfl)
      ·
        intro hb4 K4
        refine RL.fieldAddr fa_132_0 rfl rfl rfl rfl (RL.loadq Try.isAgg3 rfl rfl rfl rfl ?_)
        refine RL.p rfl (RL.p rfl (RL.p rfl ?_))
        exact K4 _ (.cons rfl (sK [4, 5, 7, 26, 27, 28] rfl))
      ·
        intro hb4 K4
        refine RL.p rfl (RL.p rfl (RL.p rfl (RL.p rfl (RL.p rfl ?_))))
        exact K4 _ (.cons rfl (sK [4, 5, 7, 26, 27, 28] rfl))
      refine RL.nil (NQ.seq ?_)
      refine CW.cond rfl (fun h2 => ?_) (fun h2 => ?_)
      ·
        refine CW.seq (CW.rg (RL.p rfl (RL.p rfl (RL.nil (NQ.seq (CW.ret (RQ.seq (RQ.block (RQ.seq (RQ.seq (RQ.block (RQ.seq ?_))))))))))))
        have hno : ¬ (0 ≤ dr ∧ L.length ≤ 8 ∧ adsB L = true) := by
          rintro ⟨-, -, h3⟩
          have h4 := adsB_iff.1 h3 i
          rw [stepA_at hx] at h4
          simp at h2 h4
          rcases h2 with h2 | h2
          · rw [h4.1] at h2; cases h2
          · omega
        exact RQ.post (res2 rfl rfl rfl) (Split.none _) ⟨_, by rw [errI_no hno], rfl, rfl⟩
      ·
        have h2 : a.ok = true ∧ wasA L i < a.src := by simpa using h2
        have hs : stepA L i = true := by rw [stepA_at hx]; simp [h2]
        have hw := wasA_at hx
        refine CW.skip (NQ.seq ?_)
        refine CW.cutN (γ := Unit × List (Value × Value)) (fun _ => True) (fun g => [(4, .pointer (some ⟨b2, 0, none⟩)), (5, .int .i64 a.src), (26, slO (some ba) L.length ca), (27, .int .i64 (L.length : Int)), (28, .int .i64 (i : Int))]) (fun _ => J2) (fun g => [mapI mp goodI g.2]) ?_ ?_
        ·
          refine CW.regionD (.cons 0 (.cons 1 (.cons 2 (.cons 3 (.cons 4 (.cons 5 (.cons 9 (.fork [6, 10, 11] (fun k => (bif Nat.beq k 6 then (.cons 7 (.fork [8, 10, 11] (fun k => (bif Nat.beq k 8 then (.fork [10, 11] (fun k => (bif Nat.beq k 10 then (Sq.of [11, 12, 13, 14]) else (.cons 12 (.fork [10, 13] (fun k => (bif Nat.beq k 10 then (Sq.of [13, 14]) else (Sq.of [10, 14])))))))) else (bif Nat.beq k 10 then (.fork [8, 11] (fun k => (bif Nat.beq k 8 then (Sq.of [11, 12, 13, 14]) else (Sq.of [12, 8, 13, 14])))) else (.cons 12 (.fork [8, 10] (fun k => (bif Nat.beq k 8 then (.fork [10, 13] (fun k => (bif Nat.beq k 10 then (Sq.of [13, 14]) else (Sq.of [10, 14])))) else (Sq.of [8, 13, 14])))))))))) else (bif Nat.beq k 10 then (.fork [6, 11] (fun k => (bif Nat.beq k 6 then (.cons 7 (.fork [8, 11] (fun k => (bif Nat.beq k 8 then (Sq.of [11, 12, 13, 14]) else (Sq.of [12, 8, 13, 14]))))) else (Sq.of [6, 7, 12, 8, 13, 14])))) else (.cons 6 (.cons 7 (.cons 12 (.fork [8, 10] (fun k => (bif Nat.beq k 8 then (.fork [10, 13] (fun k => (bif Nat.beq k 10 then (Sq.of [13, 14]) else (Sq.of [10, 14])))) else (Sq.of [8, 13, 14])))))))))))))))))) [8, 11, 13] [11, 13] [0, 1, 2, 3, 4, 7, 9, 12, 14] mixed (by kernel_rfl) ?_
          refine RL.p rfl (RL.p rfl (RL.fieldAddr fa_171_5 rfl rfl rfl rfl (RL.loadTq Try.isAgg169 rfl rfl rfl rfl ?_)))
          refine RL.fieldAddr fa_132_0 rfl rfl rfl rfl (RL.loadq Try.isAgg3 rfl rfl rfl rfl ?_)
          refine RL.fieldAddr fa_132_0 rfl rfl rfl rfl ?_
          refine RL.fork ⟨?_, ?_, ?_, trivial⟩
          ·
            refine RL.loadSq Try.isAgg132 Try.sizeOf132 rfl rfl rfl rfl ?_
            refine RL.buildS [_, _, _, _, _, _, _, _, _, _, _, _] Try.zeroValue176 pl_176 rfl rfl rfl rfl rfl ?_
            refine RL.fork ⟨?_, ?_, ?_, trivial⟩
            ·
              refine RL.box rfl rfl rfl rfl rfl rfl ?_
              intro b4
              refine RL.fork ⟨?_, ?_, trivial⟩
              ·
                refine RL.loadq Try.isAgg3 rfl rfl rfl rfl ?_
                refine RL.mapEntry (key := .int .i64 a.src) keyI Try.runUnderlying169 Try.zeroValue172 rfl rfl rfl rfl rfl rfl rfl ⟨a.src, rfl⟩ (by repeat (first | exact List.Mem.head _ | apply List.Mem.tail)) (fun st => ⟨_, (by repeat (first | exact Upd.here | apply Upd.there)), ?_⟩)
                refine RL.p rfl (RL.entryStore rfl rfl rfl rfl rfl rfl rfl (by repeat (first | exact Upd.here | apply Upd.there)) ?_)
                refine RL.p rfl (RL.nil ?_)
                exact NQ.midG ((), _) trivial (.cons rfl (.cons rfl (.cons rfl (.cons rfl (.cons rfl .nil))))) (fun w h => h.rea (fun _ h => h) (by repeat (first | exact Rea.nil | (apply Rea.cons; (solve | (repeat (first | exact Del.here | apply Del.there)))))))
              ·
                refine RL.mapEntry (key := .int .i64 a.src) keyI Try.runUnderlying169 Try.zeroValue172 rfl rfl rfl rfl rfl rfl rfl ⟨a.src, rfl⟩ (by repeat (first | exact List.Mem.head _ | apply List.Mem.tail)) (fun st => ⟨_, (by repeat (first | exact Upd.here | apply Upd.there)), ?_⟩)
                refine RL.p rfl ?_
                refine RL.fork ⟨?_, ?_, trivial⟩
                ·
                  refine RL.loadq Try.isAgg3 rfl rfl rfl rfl ?_
                  refine RL.entryStore rfl rfl rfl rfl rfl rfl rfl (by repeat (first | exact Upd.here | apply Upd.there)) ?_
                  refine RL.p rfl (RL.nil ?_)
                  exact NQ.midG ((), _) trivial (.cons rfl (.cons rfl (.cons rfl (.cons rfl (.cons rfl .nil))))) (fun w h => h.rea (fun _ h => h) (by repeat (first | exact Rea.nil | (apply Rea.cons; (solve | (repeat (first | exact Del.here | apply Del.there)))))))
                ·
                  refine RL.entryStore rfl rfl rfl rfl rfl rfl rfl (by repeat (first | exact Upd.here | apply Upd.there)) ?_
                  refine RL.loadq Try.isAgg3 rfl rfl rfl rfl ?_
                  refine RL.p rfl (RL.nil ?_)
                  exact NQ.midG ((), _) trivial (.cons rfl (.cons rfl (.cons rfl (.cons rfl (.cons rfl .nil))))) (fun w h => h.rea (fun _ h => h) (by repeat (first | exact Rea.nil | (apply Rea.cons; (solve | (repeat (first | exact Del.here | apply Del.there)))))))
            ·
              refine RL.loadq Try.isAgg3 rfl rfl rfl rfl ?_
              refine RL.fork ⟨?_, ?_, trivial⟩
              ·
                refine RL.box rfl rfl rfl rfl rfl rfl ?_
                intro b4
                refine RL.mapEntry (key := .int .i64 a.src) keyI Try.runUnderlying169 Try.zeroValue172 rfl rfl rfl rfl rfl rfl rfl ⟨a.src, rfl⟩ (by repeat (first | exact List.Mem.head _ | apply List.Mem.tail)) (fun st => ⟨_, (by repeat (first | exact Upd.here | apply Upd.there)), ?_⟩)
                refine RL.p rfl (RL.entryStore rfl rfl rfl rfl rfl rfl rfl (by repeat (first | exact Upd.here | apply Upd.there)) ?_)
                refine RL.p rfl (RL.nil ?_)
                exact NQ.midG ((), _) trivial (.cons rfl (.cons rfl (.cons rfl (.cons rfl (.cons rfl .nil))))) (fun w h => h.rea (fun _ h => h) (by repeat (first | exact Rea.nil | (apply Rea.cons; (solve | (repeat (first | exact Del.here | apply Del.there)))))))
              ·
                refine RL.mapEntry (key := .int .i64 a.src) keyI Try.runUnderlying169 Try.zeroValue172 rfl rfl rfl rfl rfl rfl rfl ⟨a.src, rfl⟩ (by repeat (first | exact List.Mem.head _ | apply List.Mem.tail)) (fun st => ⟨_, (by repeat (first | exact Upd.here | apply Upd.there)), ?_⟩)
                refine RL.p rfl (RL.box rfl rfl rfl rfl rfl rfl ?_)
                intro b4
                refine RL.entryStore rfl rfl rfl rfl rfl rfl rfl (by repeat (first | exact Upd.here | apply Upd.there)) ?_
                refine RL.p rfl (RL.nil ?_)
                exact NQ.midG ((), _) trivial (.cons rfl (.cons rfl (.cons rfl (.cons rfl (.cons rfl .nil))))) (fun w h => h.rea (fun _ h => h) (by repeat (first | exact Rea.nil | (apply Rea.cons; (solve | (repeat (first | exact Del.here | apply Del.there)))))))
            ·
              refine RL.mapEntry (key := .int .i64 a.src) keyI Try.runUnderlying169 Try.zeroValue172 rfl rfl rfl rfl rfl rfl rfl ⟨a.src, rfl⟩ (by repeat (first | exact List.Mem.head _ | apply List.Mem.tail)) (fun st => ⟨_, (by repeat (first | exact Upd.here | apply Upd.there)), ?_⟩)
              refine RL.p rfl ?_
              refine RL.fork ⟨?_, ?_, trivial⟩
              ·
                refine RL.box rfl rfl rfl rfl rfl rfl ?_
                intro b4
                refine RL.fork ⟨?_, ?_, trivial⟩
                ·
                  refine RL.loadq Try.isAgg3 rfl rfl rfl rfl ?_
                  refine RL.entryStore rfl rfl rfl rfl rfl rfl rfl (by repeat (first | exact Upd.here | apply Upd.there)) ?_
                  refine RL.p rfl (RL.nil ?_)
                  exact NQ.midG ((), _) trivial (.cons rfl (.cons rfl (.cons rfl (.cons rfl (.cons rfl .nil))))) (fun w h => h.rea (fun _ h => h) (by repeat (first | exact Rea.nil | (apply Rea.cons; (solve | (repeat (first | exact Del.here | apply Del.there)))))))
                ·
                  refine RL.entryStore rfl rfl rfl rfl rfl rfl rfl (by repeat (first | exact Upd.here | apply Upd.there)) ?_
                  refine RL.loadq Try.isAgg3 rfl rfl rfl rfl ?_
                  refine RL.p rfl (RL.nil ?_)
                  exact NQ.midG ((), _) trivial (.cons rfl (.cons rfl (.cons rfl (.cons rfl (.cons rfl .nil))))) (fun w h => h.rea (fun _ h => h) (by repeat (first | exact Rea.nil | (apply Rea.cons; (solve | (repeat (first | exact Del.here | apply Del.there)))))))
              ·
                refine RL.loadq Try.isAgg3 rfl rfl rfl rfl ?_
                refine RL.box rfl rfl rfl rfl rfl rfl ?_
                intro b4
                refine RL.entryStore rfl rfl rfl rfl rfl rfl rfl (by repeat (first | exact Upd.here | apply Upd.there)) ?_
                refine RL.p rfl (RL.nil ?_)
                exact NQ.midG ((), _) trivial (.cons rfl (.cons rfl (.cons rfl (.cons rfl (.cons rfl .nil))))) (fun w h => h.rea (fun _ h => h) (by repeat (first | exact Rea.nil | (apply Rea.cons; (solve | (repeat (first | exact Del.here | apply Del.there)))))))
          ·
            refine RL.loadq Try.isAgg3 rfl rfl rfl rfl ?_
            refine RL.fork ⟨?_, ?_, trivial⟩
            ·
              refine RL.loadSq Try.isAgg132 Try.sizeOf132 rfl rfl rfl rfl ?_
              refine RL.buildS [_, _, _, _, _, _, _, _, _, _, _, _] Try.zeroValue176 pl_176 rfl rfl rfl rfl rfl ?_
              refine RL.fork ⟨?_, ?_, trivial⟩
              ·
                refine RL.box rfl rfl rfl rfl rfl rfl ?_
                intro b4
                refine RL.mapEntry (key := .int .i64 a.src) keyI Try.runUnderlying169 Try.zeroValue172 rfl rfl rfl rfl rfl rfl rfl ⟨a.src, rfl⟩ (by repeat (first | exact List.Mem.head _ | apply List.Mem.tail)) (fun st => ⟨_, (by repeat (first | exact Upd.here | apply Upd.there)), ?_⟩)
                refine RL.p rfl (RL.entryStore rfl rfl rfl rfl rfl rfl rfl (by repeat (first | exact Upd.here | apply Upd.there)) ?_)
                refine RL.p rfl (RL.nil ?_)
                exact NQ.midG ((), _) trivial (.cons rfl (.cons rfl (.cons rfl (.cons rfl (.cons rfl .nil))))) (fun w h => h.rea (fun _ h => h) (by repeat (first | exact Rea.nil | (apply Rea.cons; (solve | (repeat (first | exact Del.here | apply Del.there)))))))
              ·
                refine RL.mapEntry (key := .int .i64 a.src) keyI Try.runUnderlying169 Try.zeroValue172 rfl rfl rfl rfl rfl rfl rfl ⟨a.src, rfl⟩ (by repeat (first | exact List.Mem.head _ | apply List.Mem.tail)) (fun st => ⟨_, (by repeat (first | exact Upd.here | apply Upd.there)), ?_⟩)
                refine RL.p rfl (RL.box rfl rfl rfl rfl rfl rfl ?_)
                intro b4
                refine RL.entryStore rfl rfl rfl rfl rfl rfl rfl (by repeat (first | exact Upd.here | apply Upd.there)) ?_
                refine RL.p rfl (RL.nil ?_)
                exact NQ.midG ((), _) trivial (.cons rfl (.cons rfl (.cons rfl (.cons rfl (.cons rfl .nil))))) (fun w h => h.rea (fun _ h => h) (by repeat (first | exact Rea.nil | (apply Rea.cons; (solve | (repeat (first | exact Del.here | apply Del.there)))))))
            ·
              refine RL.mapEntry (key := .int .i64 a.src) keyI Try.runUnderlying169 Try.zeroValue172 rfl rfl rfl rfl rfl rfl rfl ⟨a.src, rfl⟩ (by repeat (first | exact List.Mem.head _ | apply List.Mem.tail)) (fun st => ⟨_, (by repeat (first | exact Upd.here | apply Upd.there)), ?_⟩)
              refine RL.loadSq Try.isAgg132 Try.sizeOf132 rfl rfl rfl rfl ?_
              refine RL.buildS [_, _, _, _, _, _, _, _, _, _, _, _] Try.zeroValue176 pl_176 rfl rfl rfl rfl rfl (RL.p rfl (RL.box rfl rfl rfl rfl rfl rfl ?_))
              intro b4
              refine RL.entryStore rfl rfl rfl rfl rfl rfl rfl (by repeat (first | exact Upd.here | apply Upd.there)) ?_
              refine RL.p rfl (RL.nil ?_)
              exact NQ.midG ((), _) trivial (.cons rfl (.cons rfl (.cons rfl (.cons rfl (.cons rfl .nil))))) (fun w h => h.rea (fun _ h => h) (by repeat (first | exact Rea.nil | (apply Rea.cons; (solve | (repeat (first | exact Del.here | apply Del.there)))))))
          ·
            refine RL.mapEntry (key := .int .i64 a.src) keyI Try.runUnderlying169 Try.zeroValue172 rfl rfl rfl rfl rfl rfl rfl ⟨a.src, rfl⟩ (by repeat (first | exact List.Mem.head _ | apply List.Mem.tail)) (fun st => ⟨_, (by repeat (first | exact Upd.here | apply Upd.there)), ?_⟩)
            refine RL.loadSq Try.isAgg132 Try.sizeOf132 rfl rfl rfl rfl ?_
            refine RL.buildS [_, _, _, _, _, _, _, _, _, _, _, _] Try.zeroValue176 pl_176 rfl rfl rfl rfl rfl (RL.p rfl ?_)
            refine RL.fork ⟨?_, ?_, trivial⟩
            ·
              refine RL.box rfl rfl rfl rfl rfl rfl ?_
              intro b4
              refine RL.fork ⟨?_, ?_, trivial⟩
              ·
                refine RL.loadq Try.isAgg3 rfl rfl rfl rfl ?_
                refine RL.entryStore rfl rfl rfl rfl rfl rfl rfl (by repeat (first | exact Upd.here | apply Upd.there)) ?_
                refine RL.p rfl (RL.nil ?_)
                exact NQ.midG ((), _) trivial (.cons rfl (.cons rfl (.cons rfl (.cons rfl (.cons rfl .nil))))) (fun w h => h.rea (fun _ h => h) (by repeat (first | exact Rea.nil | (apply Rea.cons; (solve | (repeat (first | exact Del.here | apply Del.there)))))))
              ·
                refine RL.entryStore rfl rfl rfl rfl rfl rfl rfl (by repeat (first | exact Upd.here | apply Upd.there)) ?_
                refine RL.loadq Try.isAgg3 rfl rfl rfl rfl ?_
                refine RL.p rfl (RL.nil ?_)
                exact NQ.midG ((), _) trivial (.cons rfl (.cons rfl (.cons rfl (.cons rfl (.cons rfl .nil))))) (fun w h => h.rea (fun _ h => h) (by repeat (first | exact Rea.nil | (apply Rea.cons; (solve | (repeat (first | exact Del.here | apply Del.there)))))))
            ·
              refine RL.loadq Try.isAgg3 rfl rfl rfl rfl ?_
              refine RL.box rfl rfl rfl rfl rfl rfl ?_
              intro b4
              refine RL.entryStore rfl rfl rfl rfl rfl rfl rfl (by repeat (first | exact Upd.here | apply Upd.there)) ?_
              refine RL.p rfl (RL.nil ?_)
              exact NQ.midG ((), _) trivial (.cons rfl (.cons rfl (.cons rfl (.cons rfl (.cons rfl .nil))))) (fun w h => h.rea (fun _ h => h) (by repeat (first | exact Rea.nil | (apply Rea.cons; (solve | (repeat (first | exact Del.here | apply Del.there)))))))
        rintro ⟨⟨⟩, c2⟩ -
        dsimp only
        refine NQ.block (NQ.seq (CW.rg (RL.bx rfl (wrapV_i64 (by omega) (by omega)) ?_)))
        refine RL.p rfl (RL.nil ?_)
        refine NQ.round (g := (i, c)) (i + 1, c2) ⟨hlt, fun j hj => ?_⟩ (by show L.length - (i + 1) < L.length - i; omega) (.cons rfl (.cons (by rw [hw]; rfl) (.cons rfl (.cons rfl (.cons rfl .nil))))) (fun w h => h.rea (fun _ h => h) (by repeat (first | exact Rea.nil | (apply Rea.cons; (solve | (repeat (first | exact Del.here | apply Del.there)))))))
        rcases Nat.lt_succ_iff_lt_or_eq.1 hj with hj | rfl
        · exact hok j hj
        · exact hs
    ·
      have hin : i = L.length := by simp at hlt; omega
      refine CW.exit (XQ.seq (XQ.seq (XQ.hit (NQ.seq (CW.seq (CW.rg (RL.p rfl (RL.p rfl (RL.p rfl (RL.nil (NQ.seq (CW.ok [2, 3] rfl (CW.ret ?_)))))))))))))
      have hyes : 0 ≤ dr ∧ L.length ≤ 8 ∧ adsB L = true := by
        refine ⟨h1.1, h1.2, adsB_iff.2 fun j => ?_⟩
        by_cases hj : j < L.length
        · exact hok j (by omega)
        · rw [stepA, List.getElem?_eq_none (by omega)]
      exact RQ.post (res2 rfl rfl rfl) (Split.none _) ⟨_, by rw [errI_yes hyes], rfl, rfl⟩
end Go.Proofs.Ytbdnebedmdoehaa
