import Derived.Test.YtbdnebedmdoehaaU17
namespace Go.Proofs.Ytbdnebedmdoehaa
open Go.PK
/-! ### SetupTells -/
theorem few_fit {c : Cf} (hc : c.Fit) : c.few.Fit := ⟨hc.cm, fun s hs => hc.L s (List.mem_of_mem_take hs)⟩
theorem few_len (c : Cf) : c.few.L.length ≤ 12 := by
  show (c.L.take 12).length ≤ 12
  rw [List.length_take]; omega
theorem stells (c : Cf) (pa : Option Addr) (ca m : Nat) (n : Int) (hc : c.Fit) (hn : c.L.length = m) (hca : m ≤ ca) (hb : m ≤ maxLen) :
    Spc Try.prog 4 #[.agg (c.cells (.slice pa m ca)).toArray, .int .i64 n] [sls pa 48 m (c.L.flatMap Sr.cells)] [] (Is (.bool true)) := by
  subst hn
  have hLl : ∀ s ∈ c.L, s.cells.length = 48 := fun s hs => sr_len (hc.L s hs).rt
  have c45 := fun sl => cf_len hc.cm sl
  refine Spc.enter Try.func4 rfl rfl rfl (fun w0 hw0 => ?_)
  refine CW.seq (CW.region (ef := [0]) (bk := []) (RL.box rfl rfl rfl rfl rfl rfl ?_))
  intro b1
  refine RL.p rfl (RL.nil (NQ.seq (CW.seq (CW.region (ef := [1, 2]) (bk := [2]) (RL.loadW Try.isAgg33 Try.sizeOf33 rfl rfl rfl rfl (by repeat (first | exact List.Mem.head _ | apply List.Mem.tail)) (c45 _) ?_)))))
  refine RL.callq (lfew_any c pa ca _ hc.cm hLl rfl hca hb) Try.call12 rfl rfl rfl rfl rfl (.inl rfl) ?_
  rintro _ _ _ ⟨ob, cp, rfl, rfl, rfl⟩
  have hf := few_fit hc
  have hfl := few_len c
  generalize c.few = d at hf hfl ⊢
  clear hLl hc
  have h45 := fun sl => cf_len hf.cm sl
  have hLl : ∀ s ∈ d.L, s.cells.length = 48 := fun s hs => sr_len (hf.L s hs).rt
  have hLr : ∀ s ∈ d.L, s.rt.length = 32 := fun s hs => (hf.L s hs).rt
  refine RL.storeW Try.sizeOf33 rfl rfl rfl rfl rfl rfl rfl (cf_ones _ rfl) (by repeat (first | exact Upd.here | apply Upd.there)) (cf_len hf.cm _) (c45 _) ?_
  refine RL.nil (NQ.seq (CW.seq ?_))
  clear c45
  refine CW.freezeP (A := [own ob cp 57 48 d.L.length (d.L.flatMap Sr.cells), cel b1 (d.cells (slO ob d.L.length cp)) 33]) (B := []) (by repeat (first | exact Pick.nil | apply Pick.take | apply Pick.leave)) rfl ?_
  refine CW.genI (fun J hJ => ?_)
  have mO : own ob cp 57 48 d.L.length (d.L.flatMap Sr.cells) ∈ J := hJ _ (List.Mem.head _)
  have m1 : cel b1 (d.cells (slO ob d.L.length cp)) 33 ∈ J := hJ _ (List.Mem.tail _ (List.Mem.head _))
  clear hJ
  have fA : RdsN J ⟨b1, 0, none⟩ 45 (d.cells (slO ob d.L.length cp)) := ⟨fun _ => Rds.allI m1, h45 _⟩
  refine CW.region (ef := [1, 2, 3]) (bk := [3]) (RL.loadSq Try.isAgg33 Try.sizeOf33 rfl rfl rfl rfl ?_)
  refine RL.call (lplain_any d ob cp _ rfl hf.cm hLr hfl) Try.call8 rfl rfl rfl rfl rfl (by repeat (first | exact Pick.nil | apply Pick.take | apply Pick.leave)) (Lend.ownI mO .nil) (.inl rfl) ?_
  rintro _ _ _ ⟨oq, cq, rfl, rfl, rfl⟩
  refine RL.alloc Try.zeroValue38 rfl rfl rfl rfl rfl ?_
  intro b2
  refine RL.storeW Try.sizeOf38 rfl rfl rfl rfl rfl rfl rfl (cf_ones _ rfl) (by repeat (first | exact Upd.here | apply Upd.there)) (h45 _) rfl ?_
  refine RL.nil (NQ.seq (CW.ok [1, 2, 5] rfl (CW.seq (CW.freezeP (A := [cel b2 (d.cells (slO oq d.L.length cq)) 38, own oq cq 46 48 d.L.length (d.L.flatMap Sr.cells)]) (B := []) (by repeat (first | exact Pick.nil | apply Pick.take | apply Pick.leave)) rfl ?_))))
  refine CW.genI (fun J2 hJ => ?_)
  have hJ2 : ∀ x ∈ J, x ∈ J2 := fun x hx => hJ x (by simp [hx])
  have mQ : own oq cq 46 48 d.L.length (d.L.flatMap Sr.cells) ∈ J2 := hJ _ (by simp)
  have m2 : cel b2 (d.cells (slO oq d.L.length cq)) 38 ∈ J2 := hJ _ (by simp)
  replace mO := hJ2 _ mO
  replace m1 := hJ2 _ m1
  clear hJ fA
  have fA : RdsN J2 ⟨b1, 0, none⟩ 45 (d.cells (slO ob d.L.length cp)) := ⟨fun _ => Rds.allI m1, h45 _⟩
  have fB : RdsN J2 ⟨b2, 0, none⟩ 45 (d.cells (slO oq d.L.length cq)) := ⟨fun _ => Rds.allI m2, h45 _⟩
  have hfind := cfind_any d ob cp _ n rfl hf (by omega)
  have hrfind := rcfind_any d oq cq _ n rfl hf (by omega)
  have hof := cof_any d ob cp _ n rfl hf (by omega)
  have hrof := rcof_any d oq cq _ n rfl hf (by omega)
  have hff := pickS_fit (p := fun s : Sr => s.id == n) hf.L
  have hfo := pickS_fit (p := fun s : Sr => s.kd == n) hf.L
  generalize pickS (fun s : Sr => s.id == n) d.L = rf at hfind hrfind hff
  generalize pickS (fun s : Sr => s.kd == n) d.L = ro at hof hrof hfo
  have lf := sr_len hff.rt
  have lo := sr_len hfo.rt
  refine CW.region (ef := [6, 7]) (bk := [7]) (RL.loadSq Try.isAgg33 Try.sizeOf33 rfl rfl rfl rfl ?_)
  refine RL.p rfl (RL.callv (hfind) Try.call13 rfl rfl rfl rfl (Lend.ownI mO .nil) (RL.p rfl (RL.p rfl (RL.p rfl (RL.alloc Try.zeroValue57 rfl rfl rfl rfl rfl ?_)))))
  intro b3
  refine RL.storeW Try.sizeOf57 rfl rfl rfl rfl rfl rfl rfl (sr_ones rf.1) (by repeat (first | exact Upd.here | apply Upd.there)) lf rfl ?_
  refine RL.p rfl (RL.nil (NQ.seq (CW.ok [1, 2, 5, 6, 7] rfl (CW.seq (CW.region (ef := [6, 7]) (bk := [7]) (RL.loadSq Try.isAgg38 Try.sizeOf38 rfl rfl rfl rfl ?_))))))
  refine RL.p rfl (RL.callv (hrfind) Try.call14 rfl rfl rfl rfl (Lend.ownI mQ .nil) (RL.p rfl (RL.p rfl (RL.p rfl (RL.alloc Try.zeroValue46 rfl rfl rfl rfl rfl ?_)))))
  intro b4
  refine RL.storeW Try.sizeOf46 rfl rfl rfl rfl rfl rfl rfl (sr_ones rf.1) (by repeat (first | exact Upd.here | apply Upd.there)) lf rfl ?_
  refine RL.p rfl (RL.nil (NQ.seq (CW.ok [1, 2, 5, 6, 7, 8, 9] rfl (CW.seq (CW.region (ef := [6, 7]) (bk := [7]) (RL.loadSq Try.isAgg33 Try.sizeOf33 rfl rfl rfl rfl ?_))))))
  refine RL.p rfl (RL.callv (hof) Try.call15 rfl rfl rfl rfl (Lend.ownI mO .nil) (RL.p rfl (RL.p rfl (RL.p rfl (RL.alloc Try.zeroValue57 rfl rfl rfl rfl rfl ?_)))))
  intro b5
  refine RL.storeW Try.sizeOf57 rfl rfl rfl rfl rfl rfl rfl (sr_ones ro.1) (by repeat (first | exact Upd.here | apply Upd.there)) lo rfl ?_
  refine RL.p rfl (RL.nil (NQ.seq (CW.ok [1, 2, 5, 6, 7, 8, 9, 10, 11] rfl (CW.seq (CW.region (ef := [6, 7]) (bk := [7]) (RL.loadSq Try.isAgg38 Try.sizeOf38 rfl rfl rfl rfl ?_))))))
  refine RL.p rfl (RL.callv (hrof) Try.call16 rfl rfl rfl rfl (Lend.ownI mQ .nil) (RL.p rfl (RL.p rfl (RL.p rfl (RL.alloc Try.zeroValue46 rfl rfl rfl rfl rfl ?_)))))
  intro b6
  refine RL.storeW Try.sizeOf46 rfl rfl rfl rfl rfl rfl rfl (sr_ones ro.1) (by repeat (first | exact Upd.here | apply Upd.there)) lo rfl ?_
  refine RL.p rfl (RL.nil (NQ.seq (CW.ok [1, 2, 5, 6, 7, 8, 9, 10, 11, 12, 13] rfl (CW.seq (CW.freezeP (A := [cel b6 ro.1.cells 46, cel b5 ro.1.cells 57, cel b4 rf.1.cells 46, cel b3 rf.1.cells 57]) (B := []) (by repeat (first | exact Pick.nil | apply Pick.take | apply Pick.leave)) rfl ?_)))))
  refine CW.genI (fun J3 hJ => ?_)
  have hJ3 : ∀ x ∈ J2, x ∈ J3 := fun x hx => hJ x (by simp [hx])
  have m3 : cel b3 rf.1.cells 57 ∈ J3 := hJ _ (by simp)
  have m4 : cel b4 rf.1.cells 46 ∈ J3 := hJ _ (by simp)
  have m5 : cel b5 ro.1.cells 57 ∈ J3 := hJ _ (by simp)
  have m6 : cel b6 ro.1.cells 46 ∈ J3 := hJ _ (by simp)
  replace mO := hJ3 _ mO
  replace mQ := hJ3 _ mQ
  replace m1 := hJ3 _ m1
  replace m2 := hJ3 _ m2
  clear hJ fA fB hfind hrfind hof hrof
  have fA : RdsN J3 ⟨b1, 0, none⟩ 45 (d.cells (slO ob d.L.length cp)) := ⟨fun _ => Rds.allI m1, h45 _⟩
  have fB : RdsN J3 ⟨b2, 0, none⟩ 45 (d.cells (slO oq d.L.length cq)) := ⟨fun _ => Rds.allI m2, h45 _⟩
  have f3 : RdsN J3 ⟨b3, 0, none⟩ 48 rf.1.cells := ⟨fun _ => Rds.allI m3, lf⟩
  have f4 : RdsN J3 ⟨b4, 0, none⟩ 48 rf.1.cells := ⟨fun _ => Rds.allI m4, lf⟩
  have f5 : RdsN J3 ⟨b5, 0, none⟩ 48 ro.1.cells := ⟨fun _ => Rds.allI m5, lo⟩
  have f6 : RdsN J3 ⟨b6, 0, none⟩ 48 ro.1.cells := ⟨fun _ => Rds.allI m6, lo⟩
  have kl : (kindsL n).length ≤ maxLen := by unfold kindsL; (repeat' split) <;> simp [maxLen]
  refine CW.regionD (Sq.of [0, 1, 2, 3, 4, 5, 6, 8, 7, 9, 10, 11, 12, 13, 14, 15, 16, 17, 18, 19, 20, 21, 22, 23, 24, 25, 26, 27, 28, 29, 30, 31, 32, 33, 34, 35, 36, 37, 38, 39, 40, 41, 42, 44, 43, 45, 46, 47, 48, 49, 50, 51]) [7, 9, 43, 45] [] [0, 1, 2, 3, 4, 5, 6, 8, 11, 12, 13, 14, 15, 16, 17, 18, 19, 20, 21, 22, 23, 24, 25, 26, 27, 28, 29, 30, 31, 32, 33, 34, 35, 36, 37, 38, 39, 40, 41, 42, 44, 47, 48, 49, 50, 51] mixed (by kernel_rfl) ?_
  refine RL.loadSTq Try.isAgg33 Try.sizeOf33 rfl rfl rfl rfl ?_
  refine RL.callvT (ccheck_any d ob cp _ rfl hf (by omega)) Try.call9 rfl rfl rfl rfl (Lend.ownI mO .nil) ?_
  refine RL.loadSTq Try.isAgg38 Try.sizeOf38 rfl rfl rfl rfl ?_
  refine RL.callvT (rcheck_any d oq cq _ rfl hf (by omega)) Try.call17 rfl rfl rfl rfl (Lend.ownI mQ .nil) ?_
  refine RL.p rfl (RL.p rfl (RL.cast (d := 47) (v' := .bool true) rfl ((by simp)) ?_))
  refine RL.loadSTq Try.isAgg33 Try.sizeOf33 rfl rfl rfl rfl ?_
  refine RL.loadSTq Try.isAgg38 Try.sizeOf38 rfl rfl rfl rfl ?_
  refine RL.call (snav_any d ob cp _ rfl hf.cm hf.L (by omega)) Try.call19 rfl rfl rfl rfl rfl (by repeat (first | exact Pick.nil | apply Pick.take | apply Pick.leave)) (Lend.ownI (by first | exact mO | simpa using mO) .nil) (.inl rfl) ?_
  rintro _ _ _ ⟨n1, k1, rfl, rfl, rfl⟩
  refine RL.call (rsnav_any d oq cq _ rfl hf.cm hf.L (by omega)) Try.call20 rfl rfl rfl rfl rfl (by repeat (first | exact Pick.nil | apply Pick.take | apply Pick.leave)) (Lend.ownI (by first | exact mQ | simpa using mQ) .nil) (.inl rfl) ?_
  rintro _ _ _ ⟨n2, k2, rfl, rfl, rfl⟩
  refine RL.callv (lsame_any d.g0 d.g1 d.g2 d.dr n1 n2 k1 k2 _ (adsOf d.L) rfl (by have := adsOf_len d.L; omega)) Try.call18 rfl rfl rfl rfl (.own (by repeat (first | exact List.Mem.head _ | apply List.Mem.tail)) (.own (by repeat (first | exact List.Mem.head _ | apply List.Mem.tail)) .nil)) ?_
  refine RL.p rfl (RL.p rfl ?_)
  apply RL.andB (d := 54) (dp := 59) (l' := (Sq.of [18, 19, 20, 21, 22, 23, 24, 25, 26, 27, 28, 29, 30, 31, 32, 33, 34, 35, 36, 37, 38, 39, 40, 41, 42, 44, 43, 45, 46, 47, 48, 49, 50, 51])) rfl (sK [1, 6, 7, 8, 9, 10, 11, 12, 13] rfl)
  ·
    intro hb13 K13
    refine RL.loadSTq Try.isAgg57 Try.sizeOf57 rfl rfl rfl rfl ?_
    refine RL.callTq (lsource rf.1 hff.rt) Try.call21 rfl rfl rfl rfl ?_
    refine RL.loadSTq Try.isAgg46 Try.sizeOf46 rfl rfl rfl rfl ?_
    refine RL.cmp rfl rfl rfl rfl rfl (eqs_src rf.1 hff.rt _ _) (RL.p rfl ?_)
    exact K13 _ (.cons rfl (sK [1, 6, 7, 8, 9, 10, 11, 12, 13] rfl))
  ·
    intro hb13 K13
    refine RL.p rfl (RL.p rfl (RL.p rfl (RL.p rfl (RL.p rfl ?_))))
    exact K13 _ (.cons rfl (sK [1, 6, 7, 8, 9, 10, 11, 12, 13] rfl))
  refine RL.p rfl ?_
  apply RL.andB (d := 60) (dp := 64) (l' := (Sq.of [23, 24, 25, 26, 27, 28, 29, 30, 31, 32, 33, 34, 35, 36, 37, 38, 39, 40, 41, 42, 44, 43, 45, 46, 47, 48, 49, 50, 51])) rfl (sK [1, 6, 8, 10, 11, 12, 13] rfl)
  ·
    intro hb19 K19
    refine RL.p rfl (RL.p rfl (RL.cmp rfl rfl rfl rfl rfl (eql_bool Try.runUnderlying4 _ _) (RL.p rfl ?_)))
    exact K19 _ (.cons rfl (sK [1, 6, 8, 10, 11, 12, 13] rfl))
  ·
    intro hb19 K19
    refine RL.p rfl (RL.p rfl (RL.p rfl (RL.p rfl ?_)))
    exact K19 _ (.cons rfl (sK [1, 6, 8, 10, 11, 12, 13] rfl))
  refine RL.p rfl ?_
  apply RL.andB (d := 65) (dp := 70) (l' := (Sq.of [29, 30, 31, 32, 33, 34, 35, 36, 37, 38, 39, 40, 41, 42, 44, 43, 45, 46, 47, 48, 49, 50, 51])) rfl (sK [1, 6, 8, 11, 13] rfl)
  ·
    intro hb24 K24
    refine RL.loadSTq Try.isAgg57 Try.sizeOf57 rfl rfl rfl rfl ?_
    refine RL.callTq (lsource ro.1 hfo.rt) Try.call21 rfl rfl rfl rfl ?_
    refine RL.loadSTq Try.isAgg46 Try.sizeOf46 rfl rfl rfl rfl ?_
    refine RL.cmp rfl rfl rfl rfl rfl (eqs_src ro.1 hfo.rt _ _) (RL.p rfl ?_)
    exact K24 _ (.cons rfl (sK [1, 6, 8, 11, 13] rfl))
  ·
    intro hb24 K24
    refine RL.p rfl (RL.p rfl (RL.p rfl (RL.p rfl (RL.p rfl ?_))))
    exact K24 _ (.cons rfl (sK [1, 6, 8, 11, 13] rfl))
  refine RL.p rfl ?_
  apply RL.andB (d := 71) (dp := 75) (l' := (Sq.of [34, 35, 36, 37, 38, 39, 40, 41, 42, 44, 43, 45, 46, 47, 48, 49, 50, 51])) rfl (sK [1, 6, 8] rfl)
  ·
    intro hb30 K30
    refine RL.p rfl (RL.p rfl (RL.cmp rfl rfl rfl rfl rfl (eql_bool Try.runUnderlying4 _ _) (RL.p rfl ?_)))
    exact K30 _ (.cons rfl (sK [1, 6, 8] rfl))
  ·
    intro hb30 K30
    refine RL.p rfl (RL.p rfl (RL.p rfl (RL.p rfl ?_)))
    exact K30 _ (.cons rfl (sK [1, 6, 8] rfl))
  refine RL.p rfl ?_
  apply RL.andB (d := 76) (dp := 82) (l' := (Sq.of [41, 42, 44, 43, 45, 46, 47, 48, 49, 50, 51])) rfl (sK [1] rfl)
  ·
    intro hb35 K35
    refine RL.loadSTq Try.isAgg57 Try.sizeOf57 rfl rfl rfl rfl ?_
    refine RL.callTq (limit_any rf.1 hff) Try.call22 rfl rfl rfl rfl ?_
    refine RL.loadSTq Try.isAgg46 Try.sizeOf46 rfl rfl rfl rfl ?_
    refine RL.callTq (rlimit_any rf.1 hff) Try.call23 rfl rfl rfl rfl ?_
    refine RL.p rfl (RL.p rfl ?_)
    exact K35 _ (.cons rfl (sK [1] rfl))
  ·
    intro hb35 K35
    refine RL.p rfl (RL.p rfl (RL.p rfl (RL.p rfl (RL.p rfl (RL.p rfl ?_)))))
    exact K35 _ (.cons rfl (sK [1] rfl))
  refine RL.p rfl (RL.cast (d := 83) (v' := .bool true) rfl ((by simp)) ?_)
  refine RL.p rfl (RL.p rfl (RL.call (kinds_any n) Try.call25 rfl rfl rfl rfl rfl (by repeat (first | exact Pick.nil | apply Pick.take | apply Pick.leave)) .nil (.inl rfl) ?_))
  rintro _ _ _ ⟨n3, k3, rfl, rfl, rfl⟩
  refine RL.call (rkinds_any n) Try.call26 rfl rfl rfl rfl rfl (by repeat (first | exact Pick.nil | apply Pick.take | apply Pick.leave)) .nil (.inl rfl) ?_
  rintro _ _ _ ⟨n4, k4, rfl, rfl, rfl⟩
  refine RL.callv (sameInts_any (n3.map fun b => ⟨b, 0, none⟩) (n4.map fun b => ⟨b, 0, none⟩) k3 k4 (kindsL n) (kindsL n) kl) Try.call24 rfl rfl rfl rfl (.own (by repeat (first | exact List.Mem.head _ | apply List.Mem.tail)) (.own (by repeat (first | exact List.Mem.head _ | apply List.Mem.tail)) .nil)) ?_
  refine RL.p rfl (RL.p rfl ?_)
  apply RL.andB (d := 90) (dp := 92) (l' := (Sq.of [51])) rfl .nil
  ·
    intro hb49 K49
    refine RL.callTq (works31) Try.call11 rfl rfl rfl rfl ?_
    refine RL.p rfl ?_
    exact K49 _ (.cons rfl .nil)
  ·
    intro hb49 K49
    refine RL.p rfl (RL.p rfl ?_)
    exact K49 _ (.cons rfl .nil)
  refine RL.p rfl (RL.nil (NQ.seq (CW.ret ?_)))
  refine RQ.post (res1 rfl rfl) (Split.none _) ⟨?_, rfl, rfl⟩
  congr 1
  simp
end Go.Proofs.Ytbdnebedmdoehaa
