import Derived.Test.YtbdnebedmdoehaaU20
namespace Go.Proofs.Ytbdnebedmdoehaa
open Go.PK
/-! ### SetupPlain -/
def plainB (seed : B8) (b0 b1 b2 b3 b4 b5 : Bool) : List Sr :=
  (if b0 then [] else [plainS seed 0 1]) ++ (if b1 then [] else [plainS seed 1 2]) ++ (if b2 then [] else [plainS seed 2 3]) ++ (if b3 then [] else [plainS seed 3 4]) ++ (if b4 then [] else [plainS seed 4 5]) ++ (if b5 then [] else [plainS seed 5 8])
theorem plainL_step (seed : B8) (gone : List Int) (i : Nat) : plainL seed gone (i + 1) = plainL seed gone i ++ (if gone.contains (i : Int) = true then [] else [plainS seed (i : Int) (kindN i)]) := by
  cases h : gone.contains (i : Int) with
  | true => rw [plainL_yes h]; simp
  | false => rw [plainL_no h]; simp
theorem plainL_bits (seed : B8) (gone : List Int) : plainL seed gone 6 = plainB seed (gone.contains 0) (gone.contains 1) (gone.contains 2) (gone.contains 3) (gone.contains 4) (gone.contains 5) := by
  rw [plainL_step, plainL_step, plainL_step, plainL_step, plainL_step, plainL_step]
  rfl
def plainCB (seed : B8) (b0 b1 b2 b3 b4 b5 : Bool) : Cf := ⟨0, 0, 42949672960, 4194304, ⟨0, 100, 2, 20⟩, List.replicate 32 0, 5, 500, 100, 64, plainB seed b0 b1 b2 b3 b4 b5⟩
theorem okB (seed : B8) (b0 b1 b2 b3 b4 b5 : Bool) : (plainCB seed b0 b1 b2 b3 b4 b5).ok = !b0 := by
  cases b0 <;> cases b1 <;> cases b2 <;> cases b3 <;> cases b4 <;> cases b5 <;> kernel_rfl
theorem plain_ok (seed : B8) (gone : List Int) : (plainC seed gone).ok = !gone.contains 0 := by
  rw [← okB seed (gone.contains 0) (gone.contains 1) (gone.contains 2) (gone.contains 3) (gone.contains 4) (gone.contains 5), plainC, plainL_bits]
  rfl
theorem plain_err (seed : B8) (gone : List Int) : (plainC seed gone).err = if gone.contains 0 = true then 310 else 0 := by
  rw [Cf.err, plain_ok]; cases gone.contains 0 <;> rfl
theorem Lies.takeI {p : Option Addr} {c k : Nat} {m : List Int} (hk : k ≤ m.length) (hc : m.length ≤ c) :
    Lies (sls p 1 m.length (ints m)) (sls (if c = 0 then p else p.map (·.add (0 * 1))) 1 (k - 0) (ints (m.take k))) := by
  have e : ((ints m).drop (0 * 1)).take (k * 1) = ints (m.take k) := by simp [List.map_take]
  rw [← e, Nat.sub_zero]
  exact ⟨fun w h => sls_sub (lo := 0) h (by omega) hc, fun b hb => bs_sub (lo := 0) (by omega) b hb⟩
theorem eq_slot (d : Nat) (s : Sch) (w : World) : (Op.equalIn (d + 2) 36 (.agg s.cells.toArray) (.agg s.cells.toArray)).run Try.prog w = .ok true w := by
  rw [run_equalIn_struct (P := Try.prog) w (d + 1) 36 _ _ (by kernel_rfl) (by kernel_rfl)]
  simp only [Program.fieldsOf, Try.underlying36]
  refine eqF_step (by decide) (part_s Try.isAgg3 rfl w) (eq_i64 Try.runUnderlying3 d _ w) ?_
  refine eqF_step (by decide) (part_s Try.isAgg3 rfl w) (eq_i64 Try.runUnderlying3 d _ w) ?_
  refine eqF_step (by decide) (part_s Try.isAgg3 rfl w) (eq_i64 Try.runUnderlying3 d _ w) ?_
  refine eqF_step (by decide) (part_s Try.isAgg3 rfl w) (eq_i64 Try.runUnderlying3 d _ w) ?_
  rfl
theorem neqs_slot (s : Sch) (x y : Operand) (w : World) : (do eqGuard .neq 36 x y (.agg s.cells.toArray) (.agg s.cells.toArray); binOp .neq 36 (.agg s.cells.toArray) (.agg s.cells.toArray) : Sem Value).run Try.prog w = .ok (.bool false) w := by
  simp [run_eqGuard_agg, run_neq_struct, eq_slot 9998 s w]
theorem neqs_key (l : List B8) (h : l.length = 32) (x y : Operand) (w : World) : (do eqGuard .neq 30 x y (.agg (bytes l).toArray) (.agg (bytes l).toArray); binOp .neq 30 (.agg (bytes l).toArray) (.agg (bytes l).toArray) : Sem Value).run Try.prog w = .ok (.bool false) w := by
  simp [run_eqGuard_agg, run_neq_struct, eq_key 9998 l h w]
theorem splain (seed : B8) (pa : Option Addr) (ca m : Nat) (gone : List Int) (hm : gone.length = m) (hca : m ≤ ca) (hb : m ≤ maxLen) : Spc Try.prog 3 #[U8 seed, .slice pa m ca] [sls pa 1 m (ints gone)] [] (Is (.bool true)) := by
  subst hm
  have hmin : min ((gone.length : Nat) : Int) 20 = ((min gone.length 20 : Nat) : Int) := by omega
  have hlies := Lies.takeI (p := pa) (c := ca) (k := min gone.length 20) (m := gone) (by omega) hca
  refine Spc.enter Try.func3 rfl rfl rfl (fun w0 hw0 => ?_)
  refine CW.seq (CW.rg (RL.p rfl (RL.nil (NQ.seq (CW.seq (CW.rg (RL.p rfl (RL.p rfl (RL.lenS Try.runUnderlying22 rfl rfl rfl rfl (RL.min rfl rfl rfl rfl rfl ?_))))))))))
  rw [hmin]
  refine RL.slice (lo := 0) (hi := min gone.length 20) Try.runUnderlying22 Try.sizeOf3 rfl rfl rfl rfl rfl rfl (by omega) (by omega) ?_
  refine RL.p rfl (RL.nil (NQ.seq (CW.ok [0, 1] rfl (CW.seq (CW.sub hlies (List.Mem.head _) ?_)))))
  refine CW.genI (fun J hJ => ?_)
  have mG : sls (if ca = 0 then pa else pa.map (·.add (0 * 1))) 1 (min gone.length 20 - 0) (ints (gone.take (min gone.length 20))) ∈ J := hJ _ (List.Mem.head _)
  clear hJ
  have hGl : (gone.take (min gone.length 20)).length = min gone.length 20 - 0 := by rw [List.length_take]; omega
  have hk20 : min gone.length 20 - 0 ≤ 20 := by omega
  generalize gone.take (min gone.length 20) = G at mG hGl ⊢
  generalize min gone.length 20 - 0 = k at mG hGl hk20 ⊢
  generalize (if ca = 0 then pa else pa.map (·.add (0 * 1))) = q at mG ⊢
  have hGe : G.length = 0 + k := by omega
  have hfit := plainC_fit seed G
  have h45 := fun sl => cf_len hfit.cm sl
  have hll : (plainC seed G).L.length ≤ 6 := plainL_len _ _ _
  have hrt : ∀ s ∈ (plainC seed G).L, s.rt.length = 32 := fun s hs => (hfit.L s hs).rt
  have hLl : ∀ s ∈ (plainC seed G).L, s.cells.length = 48 := fun s hs => sr_len (hrt s hs)
  refine CW.region (ef := [1, 3, 4, 7, 8, 9, 10, 11]) (bk := [3, 10, 11]) (RL.p rfl (RL.buildOwn [] Try.runUnderlying22 Try.sizeOf3 Try.zeroValue3 rfl rfl (by decide) (by decide) rfl (by decide) rfl rfl rfl rfl rfl rfl ?_))
  intro oq
  refine RL.p rfl (RL.appendA el_22 rfl rfl rfl rfl rfl rfl rfl (by first | exact ⟨(.take (Pick.none _)), rfl⟩ | exact ⟨(.leave (.take (Pick.none _))), rfl⟩ | exact ⟨(.leave (.leave (.take (Pick.none _)))), rfl⟩ | exact ⟨(.leave (.leave (.leave (.take (Pick.none _))))), rfl⟩ | exact ⟨(.leave (.leave (.leave (.leave (.take (Pick.none _)))))), rfl⟩ | exact ⟨(.leave (.leave (.leave (.leave (.leave (.take (Pick.none _))))))), rfl⟩ | exact ⟨(.leave (.leave (.leave (.leave (.leave (.leave (.take (Pick.none _)))))))), rfl⟩ | exact ⟨(.leave (.leave (.leave (.leave (.leave (.leave (.leave (.take (Pick.none _))))))))), rfl⟩ | exact ⟨(.leave (.leave (.leave (.leave (.leave (.leave (.leave (.leave (.take (Pick.none _)))))))))), rfl⟩ | exact ⟨(.leave (.leave (.leave (.leave (.leave (.leave (.leave (.leave (.leave (.take (Pick.none _))))))))))), rfl⟩) (Src.sls mG) (one_map (fun _ => rfl) _) (by first | omega | (simp only [maxLen]; omega)) (by first | omega | (simp only [maxLen]; omega)) ?_)
  intro ob1 cap1 ho1
  refine RL.call (splain_any seed (ob1.map fun b => ⟨b, 0, none⟩) cap1 (0 + k) G hGe (by omega)) Try.call6 rfl rfl rfl rfl rfl (by repeat (first | exact Pick.nil | apply Pick.take | apply Pick.leave)) (.own (xs := ints G) (by repeat (first | exact List.Mem.head _ | apply List.Mem.tail)) .nil) (.inl rfl) ?_
  rintro _ _ _ ⟨o1, c1, rfl, rfl, rfl⟩
  refine RL.p rfl (RL.p rfl (RL.call (rplain_any seed q (ca - 0) k G hGl (by omega)) Try.call7 rfl rfl rfl rfl rfl (by repeat (first | exact Pick.nil | apply Pick.take | apply Pick.leave)) (.inI (by first | exact mG | simpa using mG) .nil) (.inl rfl) ?_))
  rintro _ _ _ ⟨o2, c2, rfl, rfl, rfl⟩
  refine RL.alloc Try.zeroValue33 rfl rfl rfl rfl rfl ?_
  intro b1
  refine RL.alloc Try.zeroValue38 rfl rfl rfl rfl rfl ?_
  intro b2
  refine RL.storeW Try.sizeOf33 rfl rfl rfl rfl rfl rfl rfl (cf_ones _ rfl) (by repeat (first | exact Upd.here | apply Upd.there)) (h45 _) rfl ?_
  refine RL.storeW Try.sizeOf38 rfl rfl rfl rfl rfl rfl rfl (cf_ones _ rfl) (by repeat (first | exact Upd.here | apply Upd.there)) (h45 _) rfl ?_
  refine RL.nil (NQ.seq (CW.ok [1, 5, 6] rfl (CW.seq (CW.freezeP (A := [cel b2 ((plainC seed G).cells (slO o2 (plainC seed G).L.length c2)) 38, cel b1 ((plainC seed G).cells (slO o1 (plainC seed G).L.length c1)) 33, own o2 c2 46 48 (plainC seed G).L.length ((plainC seed G).L.flatMap Sr.cells), own o1 c1 57 48 (plainC seed G).L.length ((plainC seed G).L.flatMap Sr.cells)]) (B := [own ob1 cap1 3 1 (0 + k) ([] ++ ints G)]) (by repeat (first | exact Pick.nil | apply Pick.take | apply Pick.leave)) rfl ?_))))
  refine CW.genI (fun J2 hJ => ?_)
  have hJ2 : ∀ x ∈ J, x ∈ J2 := fun x hx => hJ x (by simp [hx])
  have n2 : cel b2 ((plainC seed G).cells (slO o2 (plainC seed G).L.length c2)) 38 ∈ J2 := hJ _ (by simp)
  have n1 : cel b1 ((plainC seed G).cells (slO o1 (plainC seed G).L.length c1)) 33 ∈ J2 := hJ _ (by simp)
  have w2 : own o2 c2 46 48 (plainC seed G).L.length ((plainC seed G).L.flatMap Sr.cells) ∈ J2 := hJ _ (by simp)
  have w1 : own o1 c1 57 48 (plainC seed G).L.length ((plainC seed G).L.flatMap Sr.cells) ∈ J2 := hJ _ (by simp)
  replace mG := hJ2 _ mG
  clear hJ
  have fA : RdsN J2 ⟨b1, 0, none⟩ 45 ((plainC seed G).cells (slO o1 (plainC seed G).L.length c1)) := ⟨fun _ => Rds.allI n1, h45 _⟩
  refine CW.region (ef := [1, 2, 3]) (bk := [3]) (RL.loadSq Try.isAgg33 Try.sizeOf33 rfl rfl rfl rfl ?_)
  refine RL.call (lplain_any (plainC seed G) o1 c1 _ rfl hfit.cm hrt (by omega)) Try.call8 rfl rfl rfl rfl rfl (by repeat (first | exact Pick.nil | apply Pick.take | apply Pick.leave)) (Lend.ownI (by first | exact w1 | simpa using w1) .nil) (.inl rfl) ?_
  rintro _ _ _ ⟨o3, c3, rfl, rfl, rfl⟩
  refine RL.alloc Try.zeroValue38 rfl rfl rfl rfl rfl ?_
  intro b3
  refine RL.storeW Try.sizeOf38 rfl rfl rfl rfl rfl rfl rfl (cf_ones _ rfl) (by repeat (first | exact Upd.here | apply Upd.there)) (h45 _) rfl ?_
  refine RL.nil (NQ.seq (CW.seq (CW.seq (CW.freezeP (A := [cel b3 ((plainC seed G).cells (slO o3 (plainC seed G).L.length c3)) 38, own o3 c3 46 48 (plainC seed G).L.length ((plainC seed G).L.flatMap Sr.cells)]) (B := [own ob1 cap1 3 1 (0 + k) ([] ++ ints G)]) (by repeat (first | exact Pick.nil | apply Pick.take | apply Pick.leave)) rfl ?_))))
  refine CW.genI (fun J3 hJ => ?_)
  have hJ3 : ∀ x ∈ J2, x ∈ J3 := fun x hx => hJ x (by simp [hx])
  have n3 : cel b3 ((plainC seed G).cells (slO o3 (plainC seed G).L.length c3)) 38 ∈ J3 := hJ _ (by simp)
  have w3 : own o3 c3 46 48 (plainC seed G).L.length ((plainC seed G).L.flatMap Sr.cells) ∈ J3 := hJ _ (by simp)
  replace n2 := hJ3 _ n2
  replace n1 := hJ3 _ n1
  replace w2 := hJ3 _ w2
  replace w1 := hJ3 _ w1
  replace mG := hJ3 _ mG
  clear hJ fA
  have fA : RdsN J3 ⟨b1, 0, none⟩ 45 ((plainC seed G).cells (slO o1 (plainC seed G).L.length c1)) := ⟨fun _ => Rds.allI n1, h45 _⟩
  have p1 : RdI J3 ⟨b1, 0 + 0, none⟩ (slO o1 (plainC seed G).L.length c1) := ⟨fun _ => Rd.celI n1 rfl⟩
  have p2 : RdI J3 ⟨b2, 0 + 0, none⟩ (slO o2 (plainC seed G).L.length c2) := ⟨fun _ => Rd.celI n2 rfl⟩
  have p3 : RdI J3 ⟨b3, 0 + 0, none⟩ (slO o3 (plainC seed G).L.length c3) := ⟨fun _ => Rd.celI n3 rfl⟩
  have vb2 : RdsN J3 ⟨b2, 0 + 1, none⟩ 3 [.int .i64 0, .int .i64 0, .int .i64 42949672960] := RdsN.told n2 (fun j u hj => by
    match j, hj with
    | 0, hj => exact hj
    | 1, hj => exact hj
    | 2, hj => exact hj
    | j + 3, hj => simp at hj) rfl
  have db2 : RdI J3 ⟨b2, 0 + 4, none⟩ (.int .i64 4194304) := ⟨fun _ => Rd.celI n2 rfl⟩
  have sb2 : RdsN J3 ⟨b2, 0 + 5, none⟩ 4 (Sch.cells ⟨0, 100, 2, 20⟩) := RdsN.told n2 (fun j u hj => by
    match j, hj with
    | 0, hj => exact hj
    | 1, hj => exact hj
    | 2, hj => exact hj
    | 3, hj => exact hj
    | j + 4, hj => simp [Sch.cells] at hj) rfl
  have kb2 : RdsN J3 ⟨b2, 0 + 9, none⟩ 32 (bytes (List.replicate 32 (0#8))) := RdsN.told n2 (fun j u hj => by
    rw [show 0 + 9 + j = j + 1 + 1 + 1 + 1 + 1 + 1 + 1 + 1 + 1 by omega, Cf.cells]
    simp only [List.getElem?_cons_succ]
    show (bytes (List.replicate 32 (0#8)) ++ _)[j]? = some u
    rw [List.getElem?_append_left (List.getElem?_eq_some_iff.1 hj).1]; exact hj) rfl
  have eb2 : RdI J3 ⟨b2, 0 + 41, none⟩ (.int .i64 5) := ⟨fun _ => Rd.getI n2 (cf_t hfit.cm _ 0)⟩
  have fb2 : RdI J3 ⟨b2, 0 + 42, none⟩ (.int .i64 500) := ⟨fun _ => Rd.getI n2 (cf_t hfit.cm _ 1)⟩
  have gb2 : RdI J3 ⟨b2, 0 + 43, none⟩ (.int .i64 100) := ⟨fun _ => Rd.getI n2 (cf_t hfit.cm _ 2)⟩
  have hb2 : RdI J3 ⟨b2, 0 + 44, none⟩ (.int .u64 64) := ⟨fun _ => Rd.getI n2 (cf_t hfit.cm _ 3)⟩
  have vb3 : RdsN J3 ⟨b3, 0 + 1, none⟩ 3 [.int .i64 0, .int .i64 0, .int .i64 42949672960] := RdsN.told n3 (fun j u hj => by
    match j, hj with
    | 0, hj => exact hj
    | 1, hj => exact hj
    | 2, hj => exact hj
    | j + 3, hj => simp at hj) rfl
  have db3 : RdI J3 ⟨b3, 0 + 4, none⟩ (.int .i64 4194304) := ⟨fun _ => Rd.celI n3 rfl⟩
  have sb3 : RdsN J3 ⟨b3, 0 + 5, none⟩ 4 (Sch.cells ⟨0, 100, 2, 20⟩) := RdsN.told n3 (fun j u hj => by
    match j, hj with
    | 0, hj => exact hj
    | 1, hj => exact hj
    | 2, hj => exact hj
    | 3, hj => exact hj
    | j + 4, hj => simp [Sch.cells] at hj) rfl
  have kb3 : RdsN J3 ⟨b3, 0 + 9, none⟩ 32 (bytes (List.replicate 32 (0#8))) := RdsN.told n3 (fun j u hj => by
    rw [show 0 + 9 + j = j + 1 + 1 + 1 + 1 + 1 + 1 + 1 + 1 + 1 by omega, Cf.cells]
    simp only [List.getElem?_cons_succ]
    show (bytes (List.replicate 32 (0#8)) ++ _)[j]? = some u
    rw [List.getElem?_append_left (List.getElem?_eq_some_iff.1 hj).1]; exact hj) rfl
  have eb3 : RdI J3 ⟨b3, 0 + 41, none⟩ (.int .i64 5) := ⟨fun _ => Rd.getI n3 (cf_t hfit.cm _ 0)⟩
  have fb3 : RdI J3 ⟨b3, 0 + 42, none⟩ (.int .i64 500) := ⟨fun _ => Rd.getI n3 (cf_t hfit.cm _ 1)⟩
  have gb3 : RdI J3 ⟨b3, 0 + 43, none⟩ (.int .i64 100) := ⟨fun _ => Rd.getI n3 (cf_t hfit.cm _ 2)⟩
  have hb3 : RdI J3 ⟨b3, 0 + 44, none⟩ (.int .u64 64) := ⟨fun _ => Rd.getI n3 (cf_t hfit.cm _ 3)⟩
  refine CW.rg (RL.fieldAddr fa_38_0 rfl rfl rfl rfl (RL.loadq Try.isAgg35 rfl rfl rfl rfl ?_))
  refine RL.lenS Try.runUnderlying35 rfl rfl rfl rfl (RL.fieldAddr fa_38_0 rfl rfl rfl rfl (RL.loadq Try.isAgg35 rfl rfl rfl rfl ?_))
  refine RL.lenS Try.runUnderlying35 rfl rfl rfl rfl (RL.p rfl (RL.p rfl ?_))
  apply RL.orB (d := 31) (dp := 39) (l' := (Sq.of [16, 17, 18, 19, 20, 21, 22, 23, 24, 25, 26, 27, 28, 29, 30, 31, 32, 33, 34, 35, 36, 37, 38, 39, 40, 41, 42, 43, 44, 45, 46, 47, 48, 49, 50, 51, 52, 53, 54, 55, 56, 57, 58, 59, 60, 61, 62, 63, 64, 65, 66, 67, 68, 69, 70, 71])) rfl (sK [1, 5, 6, 7] rfl)
  ·
    intro hb8 K8
    refine RL.fieldAddr fa_33_0 rfl rfl rfl rfl (RL.loadq Try.isAgg23 rfl rfl rfl rfl ?_)
    refine RL.lenS Try.runUnderlying23 rfl rfl rfl rfl (RL.fieldAddr fa_38_0 rfl rfl rfl rfl (RL.loadq Try.isAgg35 rfl rfl rfl rfl ?_))
    refine RL.lenS Try.runUnderlying35 rfl rfl rfl rfl (RL.p rfl (RL.p rfl ?_))
    exact K8 _ (.cons rfl (sK [1, 5, 6, 7] rfl))
  ·
    intro hb8 K8
    refine RL.p rfl (RL.p rfl (RL.p rfl (RL.p rfl (RL.p rfl (RL.p rfl (RL.p rfl (RL.p rfl ?_)))))))
    exact K8 _ (.cons rfl (sK [1, 5, 6, 7] rfl))
  refine RL.p rfl ?_
  apply RL.orB (d := 40) (dp := 46) (l' := (Sq.of [23, 24, 25, 26, 27, 28, 29, 30, 31, 32, 33, 34, 35, 36, 37, 38, 39, 40, 41, 42, 43, 44, 45, 46, 47, 48, 49, 50, 51, 52, 53, 54, 55, 56, 57, 58, 59, 60, 61, 62, 63, 64, 65, 66, 67, 68, 69, 70, 71])) rfl (sK [1, 5, 6, 7] rfl)
  ·
    intro hb17 K17
    refine RL.fieldAddr fa_38_1 rfl rfl rfl rfl (RL.loadSq Try.isAgg26 Try.sizeOf26 rfl rfl rfl rfl ?_)
    refine RL.fieldAddr fa_38_1 rfl rfl rfl rfl (RL.loadSq Try.isAgg26 Try.sizeOf26 rfl rfl rfl rfl ?_)
    refine RL.cmp rfl rfl rfl rfl rfl (neqs_vec _ _ _ _ _) (RL.p rfl ?_)
    exact K17 _ (.cons rfl (sK [1, 5, 6, 7] rfl))
  ·
    intro hb17 K17
    refine RL.p rfl (RL.p rfl (RL.p rfl (RL.p rfl (RL.p rfl (RL.p rfl ?_)))))
    exact K17 _ (.cons rfl (sK [1, 5, 6, 7] rfl))
  refine RL.p rfl ?_
  apply RL.orB (d := 47) (dp := 53) (l' := (Sq.of [30, 31, 32, 33, 34, 35, 36, 37, 38, 39, 40, 41, 42, 43, 44, 45, 46, 47, 48, 49, 50, 51, 52, 53, 54, 55, 56, 57, 58, 59, 60, 61, 62, 63, 64, 65, 66, 67, 68, 69, 70, 71])) rfl (sK [1, 5, 6, 7] rfl)
  ·
    intro hb24 K24
    refine RL.fieldAddr fa_38_2 rfl rfl rfl rfl (RL.loadq Try.isAgg24 rfl rfl rfl rfl ?_)
    refine RL.fieldAddr fa_38_2 rfl rfl rfl rfl (RL.loadq Try.isAgg24 rfl rfl rfl rfl ?_)
    refine RL.p rfl (RL.p rfl ?_)
    exact K24 _ (.cons rfl (sK [1, 5, 6, 7] rfl))
  ·
    intro hb24 K24
    refine RL.p rfl (RL.p rfl (RL.p rfl (RL.p rfl (RL.p rfl (RL.p rfl ?_)))))
    exact K24 _ (.cons rfl (sK [1, 5, 6, 7] rfl))
  refine RL.p rfl ?_
  apply RL.orB (d := 54) (dp := 60) (l' := (Sq.of [37, 38, 39, 40, 41, 42, 43, 44, 45, 46, 47, 48, 49, 50, 51, 52, 53, 54, 55, 56, 57, 58, 59, 60, 61, 62, 63, 64, 65, 66, 67, 68, 69, 70, 71])) rfl (sK [1, 5, 6, 7] rfl)
  ·
    intro hb31 K31
    refine RL.fieldAddr fa_38_3 rfl rfl rfl rfl (RL.loadSq Try.isAgg36 Try.sizeOf36 rfl rfl rfl rfl ?_)
    refine RL.fieldAddr fa_38_3 rfl rfl rfl rfl (RL.loadSq Try.isAgg36 Try.sizeOf36 rfl rfl rfl rfl ?_)
    refine RL.cmp rfl rfl rfl rfl rfl (neqs_slot _ _ _) (RL.p rfl ?_)
    exact K31 _ (.cons rfl (sK [1, 5, 6, 7] rfl))
  ·
    intro hb31 K31
    refine RL.p rfl (RL.p rfl (RL.p rfl (RL.p rfl (RL.p rfl (RL.p rfl ?_)))))
    exact K31 _ (.cons rfl (sK [1, 5, 6, 7] rfl))
  refine RL.p rfl ?_
  apply RL.orB (d := 61) (dp := 67) (l' := (Sq.of [44, 45, 46, 47, 48, 49, 50, 51, 52, 53, 54, 55, 56, 57, 58, 59, 60, 61, 62, 63, 64, 65, 66, 67, 68, 69, 70, 71])) rfl (sK [1, 5, 6, 7] rfl)
  ·
    intro hb38 K38
    refine RL.fieldAddr fa_38_4 rfl rfl rfl rfl (RL.loadSq Try.isAgg30 Try.sizeOf30 rfl rfl rfl rfl ?_)
    refine RL.fieldAddr fa_38_4 rfl rfl rfl rfl (RL.loadSq Try.isAgg30 Try.sizeOf30 rfl rfl rfl rfl ?_)
    refine RL.cmp rfl rfl rfl rfl rfl (neqs_key _ rfl _ _) (RL.p rfl ?_)
    exact K38 _ (.cons rfl (sK [1, 5, 6, 7] rfl))
  ·
    intro hb38 K38
    refine RL.p rfl (RL.p rfl (RL.p rfl (RL.p rfl (RL.p rfl (RL.p rfl ?_)))))
    exact K38 _ (.cons rfl (sK [1, 5, 6, 7] rfl))
  refine RL.p rfl ?_
  apply RL.orB (d := 68) (dp := 74) (l' := (Sq.of [51, 52, 53, 54, 55, 56, 57, 58, 59, 60, 61, 62, 63, 64, 65, 66, 67, 68, 69, 70, 71])) rfl (sK [1, 5, 6, 7] rfl)
  ·
    intro hb45 K45
    refine RL.fieldAddr fa_38_5 rfl rfl rfl rfl (RL.loadq Try.isAgg3 rfl rfl rfl rfl ?_)
    refine RL.fieldAddr fa_38_5 rfl rfl rfl rfl (RL.loadq Try.isAgg3 rfl rfl rfl rfl ?_)
    refine RL.p rfl (RL.p rfl ?_)
    exact K45 _ (.cons rfl (sK [1, 5, 6, 7] rfl))
  ·
    intro hb45 K45
    refine RL.p rfl (RL.p rfl (RL.p rfl (RL.p rfl (RL.p rfl (RL.p rfl ?_)))))
    exact K45 _ (.cons rfl (sK [1, 5, 6, 7] rfl))
  refine RL.p rfl ?_
  apply RL.orB (d := 75) (dp := 81) (l' := (Sq.of [58, 59, 60, 61, 62, 63, 64, 65, 66, 67, 68, 69, 70, 71])) rfl (sK [1, 5, 6, 7] rfl)
  ·
    intro hb52 K52
    refine RL.fieldAddr fa_38_6 rfl rfl rfl rfl (RL.loadq Try.isAgg3 rfl rfl rfl rfl ?_)
    refine RL.fieldAddr fa_38_6 rfl rfl rfl rfl (RL.loadq Try.isAgg3 rfl rfl rfl rfl ?_)
    refine RL.p rfl (RL.p rfl ?_)
    exact K52 _ (.cons rfl (sK [1, 5, 6, 7] rfl))
  ·
    intro hb52 K52
    refine RL.p rfl (RL.p rfl (RL.p rfl (RL.p rfl (RL.p rfl (RL.p rfl ?_)))))
    exact K52 _ (.cons rfl (sK [1, 5, 6, 7] rfl))
  refine RL.p rfl ?_
  apply RL.orB (d := 82) (dp := 88) (l' := (Sq.of [65, 66, 67, 68, 69, 70, 71])) rfl (sK [1, 5, 6, 7] rfl)
  ·
    intro hb59 K59
    refine RL.fieldAddr fa_38_7 rfl rfl rfl rfl (RL.loadq Try.isAgg3 rfl rfl rfl rfl ?_)
    refine RL.fieldAddr fa_38_7 rfl rfl rfl rfl (RL.loadq Try.isAgg3 rfl rfl rfl rfl ?_)
    refine RL.p rfl (RL.p rfl ?_)
    exact K59 _ (.cons rfl (sK [1, 5, 6, 7] rfl))
  ·
    intro hb59 K59
    refine RL.p rfl (RL.p rfl (RL.p rfl (RL.p rfl (RL.p rfl (RL.p rfl ?_)))))
    exact K59 _ (.cons rfl (sK [1, 5, 6, 7] rfl))
  refine RL.p rfl ?_
  apply RL.orB (d := 89) (dp := 95) (l' := (Sq.of [])) rfl (sK [1, 5, 6, 7] rfl)
  ·
    intro hb66 K66
    refine RL.fieldAddr fa_38_8 rfl rfl rfl rfl (RL.loadq Try.isAgg31 rfl rfl rfl rfl ?_)
    refine RL.fieldAddr fa_38_8 rfl rfl rfl rfl (RL.loadq Try.isAgg31 rfl rfl rfl rfl ?_)
    refine RL.p rfl (RL.p rfl ?_)
    exact K66 _ (.cons rfl (sK [1, 5, 6, 7] rfl))
  ·
    intro hb66 K66
    refine RL.p rfl (RL.p rfl (RL.p rfl (RL.p rfl (RL.p rfl (RL.p rfl ?_)))))
    exact K66 _ (.cons rfl (sK [1, 5, 6, 7] rfl))
  refine RL.nil (NQ.seq (CW.condF rfl ((by simp)) ?_))
  refine CW.skip (NQ.seq (CW.seq (CW.seq (CW.rg (RL.p rfl (RL.nil (NQ.seq (CW.block (CW.loop (γ := Nat) (fun i => i ≤ (plainC seed G).L.length) (fun i => [(1, .slice q k (ca - 0)), (5, .pointer (some ⟨b1, 0, none⟩)), (6, .pointer (some ⟨b2, 0, none⟩)), (7, .pointer (some ⟨b3, 0, none⟩)), (8, .int .i64 (i : Int))]) (fun _ => J3) (fun _ => []) (fun i => (plainC seed G).L.length - i) 0 (Nat.zero_le _) (.cons rfl (.cons rfl (.cons rfl (.cons rfl (.cons rfl .nil))))) (fun w h => h.rea (fun _ h => h) (by repeat (first | exact Rea.nil | (apply Rea.cons; (solve | (repeat (first | exact Del.here | apply Del.there))))))) ?_)))))))))
  intro i hi
  refine CW.fact (p := (o2 = none → (plainC seed G).L.length = 0) ∧ (o3 = none → (plainC seed G).L.length = 0)) (fun w hC => ⟨fun e => by have := hC.s.i _ w2; subst e; exact own_none this, fun e => by have := hC.s.i _ w3; subst e; exact own_none this⟩) (fun ⟨hp2, hp3⟩ => ?_)
  refine CW.seq (CW.seq (CW.rg (RL.p rfl (RL.fieldAddr fa_38_0 rfl rfl rfl rfl (RL.loadq Try.isAgg35 rfl rfl rfl rfl ?_)))))
  refine RL.lenS Try.runUnderlying35 rfl rfl rfl rfl (RL.p rfl (RL.nil (NQ.seq ?_)))
  refine CW.cond rfl (fun hlt => ?_) (fun hlt => ?_)
  ·
    have hlt : i < (plainC seed G).L.length := by simp at hlt; omega
    cases o2 with
    | none => exact absurd (hp2 rfl) (by omega)
    | some bb2 =>
    cases o3 with
    | none => exact absurd (hp3 rfl) (by omega)
    | some bb3 =>
    have hx := List.getElem?_eq_getElem hlt
    generalize (plainC seed G).L[i] = s at hx
    have hsr := hrt s (List.mem_of_getElem? hx)
    have hsl := hLl s (List.mem_of_getElem? hx)
    have r2 : RdsN J3 ⟨bb2, 0 + i * 48, none⟩ 48 s.cells := ⟨fun _ => own_rdsI w2 hx hLl, hsl⟩
    have r3 : RdsN J3 ⟨bb3, 0 + i * 48, none⟩ 48 s.cells := ⟨fun _ => own_rdsI w3 hx hLl, hsl⟩
    refine CW.skip (NQ.seq (CW.seq (CW.block (CW.seq (CW.regionD (Sq.of [0, 1, 2, 3, 4, 5, 6, 7, 8, 9, 10]) [] [] [0, 1, 2, 3, 4, 5, 6, 7, 8, 9, 10] mixed (by kernel_rfl) ?_)))))
    refine RL.fieldAddr fa_38_0 rfl rfl rfl rfl (RL.loadTq Try.isAgg35 rfl rfl rfl rfl ?_)
    refine RL.p rfl (RL.idxAt (j := i) Try.runUnderlying35 Try.sizeOf46 rfl rfl rfl rfl rfl rfl (hlt) (RL.loadSTq Try.isAgg46 Try.sizeOf46 rfl rfl rfl rfl ?_))
    refine RL.fieldAddr fa_38_0 rfl rfl rfl rfl (RL.loadTq Try.isAgg35 rfl rfl rfl rfl ?_)
    refine RL.p rfl (RL.idxAt (j := i) Try.runUnderlying35 Try.sizeOf46 rfl rfl rfl rfl rfl rfl (hlt) (RL.loadSTq Try.isAgg46 Try.sizeOf46 rfl rfl rfl rfl ?_))
    refine RL.cmp rfl rfl rfl rfl rfl (neqs_src s hsr _ _) (RL.nil (NQ.seq (CW.ok [1, 5, 6, 7, 8, 113] rfl (CW.condF rfl (rfl) (CW.skip (NQ.block (NQ.seq (CW.rg (RL.p rfl (RL.bx rfl (wrapV_i64 (by omega) (by omega)) ?_))))))))))
    refine RL.p rfl (RL.nil ?_)
    refine NQ.round (g := i) (i + 1) hlt (by show (plainC seed G).L.length - (i + 1) < (plainC seed G).L.length - i; omega) (.cons rfl (.cons rfl (.cons rfl (.cons rfl (.cons rfl .nil))))) (fun w h => h.rea (fun _ h => h) (by repeat (first | exact Rea.nil | (apply Rea.cons; (solve | (repeat (first | exact Del.here | apply Del.there)))))))
  ·
    have hck := ccheck_any (plainC seed G) o1 c1 _ rfl hfit (by omega)
    rw [plain_err] at hck
    refine CW.exit (XQ.seq (XQ.seq (XQ.hit (NQ.seq (CW.ok [1, 5] rfl (CW.seq (CW.rg (RL.loadSq Try.isAgg33 Try.sizeOf33 rfl rfl rfl rfl ?_))))))))
    refine RL.callv (hck) Try.call9 rfl rfl rfl rfl (Lend.ownI w1 .nil) (RL.p rfl (RL.p rfl (RL.callv (hasint_any q (ca - 0) k G 0 hGl (by omega)) Try.call10 rfl rfl rfl rfl (.inI mG .nil) ?_)))
    refine RL.p rfl (RL.cmp rfl rfl rfl rfl rfl (eql_bool Try.runUnderlying4 _ _) (RL.p rfl ?_))
    apply RL.andB (d := 121) (dp := 123) (l' := (Sq.of [10])) rfl .nil
    ·
      intro hb8 K8
      refine RL.callvq (works31) Try.call11 rfl rfl rfl rfl ?_
      refine RL.p rfl ?_
      exact K8 _ (.cons rfl .nil)
    ·
      intro hb8 K8
      refine RL.p rfl (RL.p rfl ?_)
      exact K8 _ (.cons rfl .nil)
    refine RL.p rfl (RL.nil (NQ.seq (CW.ret ?_)))
    refine RQ.post (res1 rfl rfl) (Split.none _) ⟨?_, rfl, rfl⟩
    congr 1
    cases G.contains 0 <;> rfl
noncomputable def rIL : Rdr Try.prog 22 (Sl Int) := rInt.slice 1 (by kernel_rfl) (by kernel_rfl) (by kernel_rfl) (by decide) (List.map (Value.int .i64)) (flat_one (Value.int .i64))
theorem setupPlain_call (W : World) (seed : B8) (g : Sl Int) (_ : rU8.ok seed) (hg : rIL.ok g) (_ : ∀ y ∈ rU8.its seed, y.A W) (tg : ∀ y ∈ rIL.its g, y.A W) :
    Calls Try.prog 3 #[rU8.val seed, rIL.val g] W (fun e w' => e = .returned (.bool true) ∧ RowKit.Below W.heap.size W w') := by
  obtain ⟨h1, h2, -⟩ := hg
  have h1 : g.l.length ≤ g.c := h1
  have h2 : g.c ≤ maxLen := h2
  exact (splain seed g.p g.c _ g.l rfl h1 (Nat.le_trans h1 h2)).lawI (fun y hy => by
    rw [List.mem_singleton] at hy; subst hy; exact tg _ (List.Mem.head _))
end Go.Proofs.Ytbdnebedmdoehaa
