import Derived.Test.YtflpiaeffnoepaaT7
namespace Go.Proofs.Ytflpiaeffnoepaa
open Go.PK

theorem Src.ownI {I H : List It} {ob : Option Nat} {cap sz nn : Nat} {e : TypeId} {xs : List Value} (hm : own ob cap e sz nn xs ∈ I) : Src I H (ob.map fun b => ⟨b, 0, none⟩) nn sz xs := fun w hw => by
  have := own_sls (hw.i _ hm)
  refine ⟨this.1, ?_, ?_⟩
  · intro h; rw [h] at this; exact this.2
  · intro a h; rw [h] at this; exact this.2.2
theorem Rds.ownAtI {I H : List It} {b cap sz n j : Nat} {e : TypeId} {xs vs : List Value} (hm : own (some b) cap e sz n xs ∈ I) (h : ∀ q u, vs[q]? = some u → xs[j + q]? = some u) : Rds I H ⟨b, 0 + j, none⟩ vs := fun w hw q u hu => by
  have := (own_sls (hw.i _ hm)).2.2 (j + q) u (h q u hu)
  rw [← add_none, add_add]; exact this
theorem ents_drop {es : List Ent} {lo : Nat} (h : lo ≤ es.length) : (entsV es).drop (lo * 4) = entsV (es.drop lo) := by
  have e : entsV es = entsV (es.take lo) ++ entsV (es.drop lo) := by rw [← entsV_append, List.take_append_drop]
  rw [e, List.drop_left' (by rw [ents_len, List.length_take, Nat.min_eq_left h])]
section
variable {P : Program} {L : List Oper} {ef bk : List Nat} {tq : Tq} {Q : Exit → Act → World → Prop} {N : Nat} {E : Env} {w0 : World} {S : List Nat} {I H : List It} {i : Nat} {l : Sq}
variable {d : Nat} {x y z : Operand} {ty t yt : TypeId} {pos : String} {af : Array Edge} {g : Option (Nat × Bool)} {k : IntKind} {m n o : Int}
theorem exec_min3 {ρ : Operand → Value} {dst : Option Tmp} {ats : Array TypeId} (hx : ρ x = .int k m) (hy : ρ y = .int k n) (hz : ρ z = .int k o) (w : World) :
    (execOp ρ ⟨dst, .call ⟨.builtin .min, #[x, y, z], ats⟩, ty, pos, af, g⟩).run P w = .ok (.value (.int k (Min.min (Min.min m n) o))) w := by
  simp only [BigFrame.execOp_builtin, BigFrame.builtin_min, List.map_toArray, List.map_cons, List.map_nil, hx, hy, hz]
  have h1 : (if n < m then n else m) = Min.min m n := by rw [Int.min_def]; split <;> split <;> omega
  have h2 : ∀ q : Int, (if o < q then o else q) = Min.min q o := fun q => by rw [Int.min_def]; split <;> split <;> omega
  simp [Builtin.min_, Builtin.min2, h1, h2]
theorem RL.min3 {ats : Array TypeId} (ho : nth L i = some ⟨some d, .call ⟨.builtin .min, #[x, y, z], ats⟩, ty, pos, af, g⟩) (hw : wants L E ⟨some d, .call ⟨.builtin .min, #[x, y, z], ats⟩, ty, pos, af, g⟩ = true) (hN : Nat.blt d N = true)
    (hx : E.ev x = some (.int k m)) (hy : E.ev y = some (.int k n)) (hz : E.ev z = some (.int k o)) (h : RL P L ef bk tq Q l N ((d, .int k (Min.min (Min.min m n) o)) :: E) w0 S I H) : RL P L ef bk tq Q (.cons i l) N E w0 S I H :=
  RL.pval ho hw rfl hN (fun _ w ha => exec_min3 (ha.ev hx) (ha.ev hy) (ha.ev hz) w) h
end
theorem fill_rep4 {fr to : List B8} {a : Int} {sl0 sl : Value} (h1 : fr.length = 32) (h2 : to.length = 32) (hs : sl.cells.toList = [sl]) {places : Array (Nat × Nat)} (hp : places = #[(0, 32), (32, 32), (64, 1), (65, 1)]) :
    fillL (places[·]?) (bytes zeros ++ (bytes zeros ++ [.int .i64 0, sl0])) [(0, .agg (bytes fr).toArray), (1, .agg (bytes to).toArray), (2, .int .i64 a), (3, sl)] = some (Rep.cells ⟨fr, to, a, []⟩ sl) := by
  subst hp
  refine fill_seg [] (bytes zeros) (bytes zeros ++ [.int .i64 0, sl0]) rfl (agg_cells _) rfl rfl rfl (by simp [h1]) ?_
  refine fill_seg (bytes fr) (bytes zeros) [.int .i64 0, sl0] rfl (agg_cells _) rfl (by simp [h1]) rfl (by simp [h2]) ?_
  refine fill_seg (vs := [.int .i64 a]) (bytes fr ++ bytes to) [.int .i64 0] [sl0] rfl rfl (by simp) (by simp [h1, h2]) rfl rfl ?_
  refine fill_seg (vs := [sl]) (bytes fr ++ (bytes to ++ [.int .i64 a])) [sl0] [] rfl hs (by simp) (by simp [h1, h2]) rfl rfl ?_
  simp [Rep.cells, fillL]
theorem rreport_neg (y m : Nat) (es : List Ent) (ol : Option Nat) (cl hb ch : Nat) (z : Int) (hz : z < 0) :
    Spc Try.prog 33 #[.pointer (some ⟨y, 0, none⟩), .int .i64 z] (RefH y m es ol cl hb ch) [] (RepR 58 rep0 2) := by
  refine Spc.enter Try.func33 rfl rfl rfl (fun w0 hw0 => ?_)
  refine CW.seq ?_
  refine CW.region (ef := [0]) (bk := []) ?_
  refine RL.alloc Try.zeroValue74 rfl rfl rfl rfl rfl ?_
  intro b1
  refine RL.assign rfl rfl rfl rfl ?_
  refine RL.nil ?_
  refine NQ.seq ?_
  refine CW.seq ?_
  refine CW.seq ?_
  refine CW.region (ef := []) (bk := []) ?_
  refine RL.move rfl rfl rfl rfl ?_
  refine RL.bin rfl rfl rfl rfl rfl rfl ?_
  refine RL.nil ?_
  refine NQ.seq ?_
  -- STOP: if; todo top: ["code", ["cond", ["t", 9], ["seq", ["region", 2, [{"d": 10, "op": ["build", 74, []], "ty": 74, "pos": "ref.go:75", "after": [], "guard": null}, {"d": null, "op": ["store", 74, ["t", 4], ["t", 10]], "
  refine CW.condT rfl (by simp; omega) ?_
  refine CW.seq ?_
  refine CW.region (ef := [1]) (bk := [1]) ?_
  refine RL.buildS _ Try.zeroValue74 pl_74 rfl rfl rfl rfl rfl ?_
  refine RL.storeW Try.sizeOf74 rfl rfl rfl rfl rfl rfl rfl (by first | rfl | exact ones_map one8 _ | exact ones_map (fun _ => rfl) _) (by repeat (first | exact Upd.here | apply Upd.there)) (by first | rfl | assumption | (simp only [List.length_map]; assumption) | (simp only [List.length_map, List.length_replicate]; done) | (simp; done)) (by first | rfl | assumption | (simp only [List.length_map]; assumption) | (simp only [List.length_map, List.length_replicate]; done) | (simp; done)) ?_
  refine RL.assign rfl rfl rfl rfl ?_
  refine RL.nil ?_
  refine NQ.seq ?_
  refine CW.ret ?_
  refine RQ.seq ?_
  -- STOP: ret; end
  refine RQ.ownNone (e := 58) 4 ?_
  exact RQ.post (resWT rfl rfl rfl Try.isAgg74 Try.sizeOf74 (by repeat (first | exact List.Mem.head _ | apply List.Mem.tail)) rfl) (.keep (Split.none _)) ⟨none, 0, rfl, rfl, rfl⟩
theorem rreport_yes (y m : Nat) (es : List Ent) (ol : Option Nat) (cl hb ch : Nat) (z : Int) (hz : 0 ≤ z) (hl : es.length ≤ 1000000) (q : Nat) (hq : q = min z.toNat (min es.length m)) :
    Spc Try.prog 33 #[.pointer (some ⟨y, 0, none⟩), .int .i64 z] (RefH y m es ol cl hb ch) [] (RepR 58 (repOf es q) 0) := by
  have hqn : q ≤ es.length := by omega
  have h1 := headOf_length (es.take (es.length - q))
  have h2 := headOf_length es
  refine Spc.enter Try.func33 rfl rfl rfl (fun w0 hw0 => ?_)
  refine CW.seq ?_
  refine CW.region (ef := [0]) (bk := []) ?_
  refine RL.alloc Try.zeroValue74 rfl rfl rfl rfl rfl ?_
  intro b1
  refine RL.assign rfl rfl rfl rfl ?_
  refine RL.nil ?_
  refine NQ.seq ?_
  refine CW.seq ?_
  refine CW.seq ?_
  refine CW.region (ef := []) (bk := []) ?_
  refine RL.move rfl rfl rfl rfl ?_
  refine RL.bin rfl rfl rfl rfl rfl rfl ?_
  refine RL.nil ?_
  refine NQ.seq ?_
  -- STOP: if; todo top: ["code", ["cond", ["t", 9], ["seq", ["region", 2, [{"d": 10, "op": ["build", 74, []], "ty": 74, "pos": "ref.go:75", "after": [], "guard": null}, {"d": null, "op": ["store", 74, ["t", 4], ["t", 10]], "
  refine CW.condF rfl (by simp; omega) ?_
  refine CW.skip ?_
  refine NQ.seq ?_
  refine CW.seq ?_
  refine CW.region (ef := []) (bk := []) ?_
  refine RL.move rfl rfl rfl rfl ?_
  refine RL.nilCheck rfl rfl rfl rfl ?_
  refine RL.fieldAddr fa_66_1 rfl rfl rfl rfl ?_
  refine RL.load Try.isAgg63 rfl rfl rfl rfl (by first | assumption | (apply RdI.rd; assumption) | (apply Rd.get; (solve | (repeat (first | exact List.Mem.head _ | apply List.Mem.tail))); assumption) | (apply Rd.getS; (solve | (repeat (first | exact List.Mem.head _ | apply List.Mem.tail))); assumption) | (apply Rd.getO; (solve | (repeat (first | exact List.Mem.head _ | apply List.Mem.tail))); assumption) | (apply Rd.getI; (solve | (repeat (first | exact List.Mem.head _ | apply List.Mem.tail))); assumption) | (apply Rd.cel; (solve | (repeat (first | exact List.Mem.head _ | apply List.Mem.tail))); exact rfl) | (apply Rd.celI; (solve | (repeat (first | exact List.Mem.head _ | apply List.Mem.tail))); exact rfl)) ?_
  refine RL.lenS Try.runUnderlying63 rfl rfl rfl rfl ?_
  refine RL.assign rfl rfl rfl rfl ?_
  refine RL.nil ?_
  refine NQ.seq ?_
  refine CW.only (.cons (k := 0) rfl (.cons (k := 1) rfl (.cons (k := 4) rfl (.cons (k := 6) rfl .nil)))) ?_
  refine CW.seq ?_
  refine CW.region (ef := []) (bk := []) ?_
  refine RL.move rfl rfl rfl rfl ?_
  refine RL.move rfl rfl rfl rfl ?_
  refine RL.move rfl rfl rfl rfl ?_
  refine RL.nilCheck rfl rfl rfl rfl ?_
  refine RL.fieldAddr fa_66_0 rfl rfl rfl rfl ?_
  refine RL.load Try.isAgg3 rfl rfl rfl rfl (by first | assumption | (apply RdI.rd; assumption) | (apply Rd.get; (solve | (repeat (first | exact List.Mem.head _ | apply List.Mem.tail))); assumption) | (apply Rd.getS; (solve | (repeat (first | exact List.Mem.head _ | apply List.Mem.tail))); assumption) | (apply Rd.getO; (solve | (repeat (first | exact List.Mem.head _ | apply List.Mem.tail))); assumption) | (apply Rd.getI; (solve | (repeat (first | exact List.Mem.head _ | apply List.Mem.tail))); assumption) | (apply Rd.cel; (solve | (repeat (first | exact List.Mem.head _ | apply List.Mem.tail))); exact rfl) | (apply Rd.celI; (solve | (repeat (first | exact List.Mem.head _ | apply List.Mem.tail))); exact rfl)) ?_
  refine RL.move rfl rfl rfl rfl ?_
  -- STOP: op; op 7: d=23 ["builtin", "Go.Builtin.min", [["t", 17], ["t", 21], ["t", 22]], [3, 3, 3]] guard=None (ref.go:78)
  refine RL.min3 rfl rfl rfl rfl rfl rfl ?_
  rw [show min (min z (m : Int)) (es.length : Int) = (q : Int) by omega]
  refine RL.binX rfl rfl rfl rfl rfl rfl (wrapV_i64 (by omega) (by omega)) ?_
  refine RL.assign rfl rfl rfl rfl ?_
  refine RL.nil ?_
  refine NQ.seq ?_
  refine CW.only (.cons (k := 0) rfl (.cons (k := 4) rfl (.cons (k := 6) rfl (.cons (k := 7) rfl .nil)))) ?_
  refine CW.seq ?_
  -- STOP: region; todo top: ["code", ["region", 5, [{"d": 25, "op": ["move", ["t", 0]], "ty": 53, "pos": "ref.go:79", "after": [], "guard": null}, {"d": 26, "op": ["nilCheck", ["t", 25]], "ty": 0, "pos": "ref.go:79", "after": [0
  rw [show (es.length : Int) - (q : Int) = ((es.length - q : Nat) : Int) by omega]
  refine CW.fact (p := es.length ≤ cl) (fun w hC => own_cap (hC.s.i (own ol cl 58 4 es.length (entsV es)) (by repeat (first | exact List.Mem.head _ | apply List.Mem.tail)))) (fun hcl => ?_)
  refine CW.regionD (Sq.of [0, 1, 2, 3, 4, 5, 6, 7, 8, 9, 10, 11, 12, 13, 14, 16, 17, 18, 19, 20, 21, 15, 22, 23, 24, 25]) [15, 22, 24] [22, 24] [0, 1, 2, 3, 4, 5, 6, 7, 8, 9, 10, 11, 12, 13, 14, 16, 17, 18, 19, 20, 21, 23, 25] mixed (by kernel_rfl) ?_
  refine RL.move rfl rfl rfl rfl ?_
  refine RL.nilCheck rfl rfl rfl rfl ?_
  refine RL.fieldAddr fa_66_2 rfl rfl rfl rfl ?_
  refine RL.loadT Try.isAgg64 rfl rfl rfl rfl (by first | assumption | (apply RdI.rd; assumption) | (apply Rd.get; (solve | (repeat (first | exact List.Mem.head _ | apply List.Mem.tail))); assumption) | (apply Rd.getS; (solve | (repeat (first | exact List.Mem.head _ | apply List.Mem.tail))); assumption) | (apply Rd.getO; (solve | (repeat (first | exact List.Mem.head _ | apply List.Mem.tail))); assumption) | (apply Rd.getI; (solve | (repeat (first | exact List.Mem.head _ | apply List.Mem.tail))); assumption) | (apply Rd.cel; (solve | (repeat (first | exact List.Mem.head _ | apply List.Mem.tail))); exact rfl) | (apply Rd.celI; (solve | (repeat (first | exact List.Mem.head _ | apply List.Mem.tail))); exact rfl)) ?_
  refine RL.move rfl rfl rfl rfl ?_
  -- STOP: op; op 5: d=30 ["indexAddr", 64, ["t", 28], ["t", 29]] guard=None (ref.go:79)
  refine RL.idxAt (j := es.length - q) Try.runUnderlying64 Try.sizeOf61 rfl rfl rfl rfl rfl rfl (by omega) ?_
  -- STOP: op; op 6: d=31 ["load", 61, ["t", 30]] guard=None (ref.go:79)
  refine RL.loadNT (vs := bytes (headOf (es.take (es.length - q)))) Try.isAgg61 (by rw [List.length_map, h1]; exact Try.sizeOf61) rfl rfl rfl rfl (Rds.ownAtI (by repeat (first | exact List.Mem.head _ | apply List.Mem.tail)) (headsV_at (by omega))) ?_
  refine RL.move rfl rfl rfl rfl ?_
  refine RL.nilCheck rfl rfl rfl rfl ?_
  refine RL.fieldAddr fa_66_2 rfl rfl rfl rfl ?_
  refine RL.loadT Try.isAgg64 rfl rfl rfl rfl (by first | assumption | (apply RdI.rd; assumption) | (apply Rd.get; (solve | (repeat (first | exact List.Mem.head _ | apply List.Mem.tail))); assumption) | (apply Rd.getS; (solve | (repeat (first | exact List.Mem.head _ | apply List.Mem.tail))); assumption) | (apply Rd.getO; (solve | (repeat (first | exact List.Mem.head _ | apply List.Mem.tail))); assumption) | (apply Rd.getI; (solve | (repeat (first | exact List.Mem.head _ | apply List.Mem.tail))); assumption) | (apply Rd.cel; (solve | (repeat (first | exact List.Mem.head _ | apply List.Mem.tail))); exact rfl) | (apply Rd.celI; (solve | (repeat (first | exact List.Mem.head _ | apply List.Mem.tail))); exact rfl)) ?_
  refine RL.move rfl rfl rfl rfl ?_
  -- STOP: op; op 12: d=37 ["indexAddr", 64, ["t", 35], ["t", 36]] guard=None (ref.go:79)
  refine RL.idxAt (j := es.length) Try.runUnderlying64 Try.sizeOf61 rfl rfl rfl rfl rfl rfl (by omega) ?_
  -- STOP: op; op 13: d=38 ["load", 61, ["t", 37]] guard=None (ref.go:79)
  refine RL.loadNT (vs := bytes (headOf es)) Try.isAgg61 (by rw [List.length_map, h2]; exact Try.sizeOf61) rfl rfl rfl rfl (Rds.ownAtI (by repeat (first | exact List.Mem.head _ | apply List.Mem.tail)) (headsV_last es)) ?_
  refine RL.move rfl rfl rfl rfl ?_
  refine RL.move rfl rfl rfl rfl ?_
  refine RL.nilCheck rfl rfl rfl rfl ?_
  refine RL.fieldAddr fa_66_1 rfl rfl rfl rfl ?_
  refine RL.loadT Try.isAgg63 rfl rfl rfl rfl (by first | assumption | (apply RdI.rd; assumption) | (apply Rd.get; (solve | (repeat (first | exact List.Mem.head _ | apply List.Mem.tail))); assumption) | (apply Rd.getS; (solve | (repeat (first | exact List.Mem.head _ | apply List.Mem.tail))); assumption) | (apply Rd.getO; (solve | (repeat (first | exact List.Mem.head _ | apply List.Mem.tail))); assumption) | (apply Rd.getI; (solve | (repeat (first | exact List.Mem.head _ | apply List.Mem.tail))); assumption) | (apply Rd.cel; (solve | (repeat (first | exact List.Mem.head _ | apply List.Mem.tail))); exact rfl) | (apply Rd.celI; (solve | (repeat (first | exact List.Mem.head _ | apply List.Mem.tail))); exact rfl)) ?_
  refine RL.move rfl rfl rfl rfl ?_
  -- STOP: op; op 21: d=46 ["slice", 63, ["t", 44], ["t", 45], null, null] guard=None (ref.go:79)
  refine RL.slice (lo := es.length - q) (hi := es.length) Try.runUnderlying63 Try.sizeOf58 rfl rfl rfl rfl rfl rfl (by omega) hcl ?_
  refine RL.buildOwn [] Try.runUnderlying63 Try.sizeOf58 Try.zeroValue58 rfl rfl (by decide) (by decide) rfl (by decide) rfl rfl rfl rfl rfl rfl ?_
  intro b2
  -- STOP: op; op 22: d=47 ["builtin", "Go.Builtin.append", [["t", 40], ["t", 46]], [63, 63]] guard=None (ref.go:79)
  have hsub := Src.sub (lo := es.length - q) (hi := es.length) (cap := cl) (Src.ownI (I := RefH y m es ol cl hb ch) (H := [own (some b2) 0 58 4 0 [], cel b1 (rep0.cells (.slice none 0 0)) 74]) (sz := 4) (ob := ol) (cap := cl) (e := 58) (nn := es.length) (xs := entsV es) (by repeat (first | exact List.Mem.head _ | apply List.Mem.tail))) (by omega) (Nat.le_refl _) (by omega)
  rw [ents_drop (by omega), show es.length - (es.length - q) = q by omega, List.take_of_length_le (by rw [ents_len, List.length_drop]; omega)] at hsub
  rw [show es.length - (es.length - q) = q by omega]
  have hL : (es.drop (es.length - q)).length = q := by rw [List.length_drop]; omega
  refine RL.appendA el_63 rfl rfl rfl rfl rfl rfl rfl (by first | exact ⟨(.take (Pick.none _)), rfl⟩ | exact ⟨(.leave (.take (Pick.none _))), rfl⟩ | exact ⟨(.leave (.leave (.take (Pick.none _)))), rfl⟩ | exact ⟨(.leave (.leave (.leave (.take (Pick.none _))))), rfl⟩ | exact ⟨(.leave (.leave (.leave (.leave (.take (Pick.none _)))))), rfl⟩ | exact ⟨(.leave (.leave (.leave (.leave (.leave (.take (Pick.none _))))))), rfl⟩ | exact ⟨(.leave (.leave (.leave (.leave (.leave (.leave (.take (Pick.none _)))))))), rfl⟩ | exact ⟨(.leave (.leave (.leave (.leave (.leave (.leave (.leave (.take (Pick.none _))))))))), rfl⟩ | exact ⟨(.leave (.leave (.leave (.leave (.leave (.leave (.leave (.leave (.take (Pick.none _)))))))))), rfl⟩ | exact ⟨(.leave (.leave (.leave (.leave (.leave (.leave (.leave (.leave (.leave (.take (Pick.none _))))))))))), rfl⟩) hsub (fun u hu => by obtain ⟨e, -, he⟩ := List.mem_flatMap.1 hu; simp [Ent.cells] at he; rcases he with rfl | rfl | rfl | rfl <;> rfl) (by first | omega | (simp only [maxLen]; omega)) (by first | omega | (simp only [maxLen]; omega)) ?_
  -- STOP: op; op 23: d=48 ["build", 74, [[0, ["t", 31]], [1, ["t", 38]], [2, ["t", 39]], [3, ["t", 47]]]] guard=None (ref.go:79)
  intro ob cp hob
  refine RL.buildS (Rep.cells ⟨headOf (es.take (es.length - q)), headOf es, ((es.length - q : Nat) : Int), []⟩ (slO ob (0 + q) cp)) Try.zeroValue74 pl_74 rfl rfl rfl rfl (fill_rep4 h1 h2 rfl rfl) ?_
  -- STOP: op; op 24: d=None ["store", 74, ["t", 4], ["t", 48]] guard=None (ref.go:79)
  refine RL.storeW Try.sizeOf74 rfl rfl rfl rfl rfl rfl rfl (ones_rep _ rfl) (by repeat (first | exact Upd.here | apply Upd.there)) (rep_len h1 h2) rfl ?_
  refine RL.assign rfl rfl rfl rfl ?_
  refine RL.nil ?_
  refine NQ.seq ?_
  refine CW.only (.cons (k := 4) rfl (.cons (k := 5) rfl .nil)) ?_
  refine CW.ret ?_
  -- STOP: ret; end
  have hq' : (repOf es q).L.length = q := hL
  exact RQ.post (resWT rfl rfl rfl Try.isAgg74 Try.sizeOf74 (by repeat (first | exact List.Mem.head _ | apply List.Mem.tail)) (rep_len h1 h2)) (.keep (.drop .nil)) ⟨ob, cp, by rw [hq', Nat.zero_add]; rfl, rfl, by rw [hq', Nat.zero_add]; rfl⟩
theorem rreport_any (y m : Nat) (es : List Ent) (ol : Option Nat) (cl hb ch : Nat) (z : Int) (hl : es.length ≤ 1000000) :
    Spc Try.prog 33 #[.pointer (some ⟨y, 0, none⟩), .int .i64 z] (RefH y m es ol cl hb ch) [] (RepR 58 (repV m es z) (if z < 0 then 2 else 0)) := by
  unfold repV
  by_cases hz : z < 0
  · rw [if_pos hz, if_pos hz]; exact rreport_neg y m es ol cl hb ch z hz
  · rw [if_neg hz, if_neg hz]; exact rreport_yes y m es ol cl hb ch z (by omega) hl _ rfl
end Go.Proofs.Ytflpiaeffnoepaa
