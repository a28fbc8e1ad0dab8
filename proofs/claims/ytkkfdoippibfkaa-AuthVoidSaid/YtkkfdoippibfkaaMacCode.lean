import Derived.Test.YtkkfdoippibfkaaPad
namespace Go.Proofs.Ytkkfdoippibfkaa
open Go.PK

def macCode (key b : List B8) : List B8 := sha (padB key 92#8 ++ sha (padB key 54#8 ++ b))
theorem macCode_len (key b : List B8) : (macCode key b).length = 32 := sha_length _
theorem Lend.allX {I F J : List It} {b sz nn : Nat} {cs xs : List Value} {T : TypeId} (hm : PK.cel b cs T ∈ F) (hl : xs.length = nn * sz) (he : cs = xs) (h : Lend I F J) : Lend I F (PK.sls (some ⟨b, 0, none⟩) sz nn xs :: J) := by
  subst he; exact Lend.all hm hl h
theorem joined_two (a b : Part) : joined [a, b] = a.m ++ b.m := by simp [joined]

theorem code_any (p : Option Addr) (kcap : Nat) (key : List B8) (hkb : key.length ≤ 1000000000) (pp : Option Addr) (cap : Nat) (qs : List Part) (hn : qs.length ≤ 1000000) (hb : (joined qs).length ≤ 100000000) :
    Spc Try.prog 147 #[.slice p key.length kcap, .slice pp qs.length cap] (sls p 1 key.length (bytes key) :: sls pp 1 qs.length (qs.map Part.v) :: qs.map Part.i) [] (Is (.agg (bytes (macCode key (joined qs))).toArray)) := by
  generalize hBase : sls p 1 key.length (bytes key) :: sls pp 1 qs.length (qs.map Part.v) :: qs.map Part.i = Base
  have hmk : sls p 1 key.length (bytes key) ∈ Base := by rw [← hBase]; exact List.Mem.head _
  have hmp : sls pp 1 qs.length (qs.map Part.v) ∈ Base := by rw [← hBase]; exact List.mem_cons_of_mem _ (List.Mem.head _)
  have hmi : ∀ q ∈ qs, q.i ∈ Base := fun q hq => by rw [← hBase]; exact List.mem_cons_of_mem _ (List.mem_cons_of_mem _ (List.mem_map_of_mem hq))
  refine Spc.enter Try.func147 rfl rfl rfl (fun w0 hw0 => ?_)
  refine CW.seq ?_
  refine CW.region (ef := [0]) (bk := []) ?_
  refine RL.alloc (cs := List.replicate 32 (U8 0#8)) Try.zeroValue133 rfl rfl rfl rfl rfl ?_
  intro b1
  refine RL.nil ?_
  refine NQ.seq ?_
  refine CW.seq ?_
  refine CW.region (ef := [0]) (bk := []) ?_
  refine RL.call (new_any) Try.call168 rfl rfl rfl rfl rfl (by repeat (first | exact Pick.nil | apply Pick.take | apply Pick.leave)) (by repeat (first | exact Lend.nil | (refine Lend.inI ?_ ?_; (solve | (repeat (first | exact List.Mem.head _ | apply List.Mem.tail)))) | (refine Lend.inH ?_ ?_; (solve | (repeat (first | exact List.Mem.head _ | apply List.Mem.tail)))))) (.inl rfl) ?_
  -- STOP: called; op 1: d=5 ["assign", ["t", 9]] guard=None (mac.go:32)
  rintro _ _ _ ⟨hh, rfl, rfl, rfl⟩
  refine RL.assign rfl rfl rfl rfl ?_
  refine RL.nil ?_
  refine NQ.seq ?_
  refine CW.seq ?_
  -- STOP: region; todo top: ["code", ["region", 2, [{"d": 10, "op": ["move", ["t", 5]], "ty": 301, "pos": "mac.go:33", "after": [], "guard": null}, {"d": 11, "op": ["move", ["t", 0]], "ty": 95, "pos": "mac.go:33", "after": [], "
  refine CW.also (sls none 1 0 []) (fun _ _ => ⟨rfl, rfl⟩) (fun c hc => by simp [sls] at hc) ?_
  refine CW.region (ef := [2, 3]) (bk := [3]) ?_
  refine RL.move rfl rfl rfl rfl ?_
  refine RL.move rfl rfl rfl rfl ?_
  refine RL.call (pad_any p kcap key hkb 54#8) Try.call190 rfl rfl rfl rfl rfl (by repeat (first | exact Pick.nil | apply Pick.take | apply Pick.leave)) (.inI (by simp [hmk]) .nil) (.inl rfl) ?_
  -- STOP: called; op 3: d=13 ["call", ["f", 169], [["t", 10], ["t", 12]], [301, 95]] guard=None (mac.go:33)
  rintro _ _ _ ⟨bp, rfl, rfl, rfl⟩
  have hl1 := padB_len key 54#8
  refine RL.write (n := 0) (rest := []) (m := padB key 54#8) (by simp) (by simp) (by simp) (by omega) rfl rfl rfl rfl rfl (by rw [padB_len]; rfl) (by repeat (first | exact List.Mem.head _ | apply List.Mem.tail)) (by repeat (first | exact Pick.nil | apply Pick.take | apply Pick.leave)) (Lend.all (by repeat (first | exact List.Mem.head _ | apply List.Mem.tail)) (by simp) .nil) ?_
  intro p1 c1 hc1
  rw [show absorb iv ([] ++ padB key 54#8) = after (padB key 54#8) from rfl, Nat.zero_add] at *
  refine RL.nil ?_
  refine NQ.seq ?_
  refine CW.seq ?_
  refine CW.seq ?_
  refine CW.region (ef := []) (bk := []) ?_
  refine RL.move rfl rfl rfl rfl ?_
  refine RL.lenS Try.runUnderlying281 rfl rfl rfl rfl ?_
  refine RL.move rfl rfl rfl rfl ?_
  refine RL.nil ?_
  refine NQ.seq ?_
  refine CW.only (.cons (k := 0) rfl (.cons (k := 4) rfl (.cons (k := 5) rfl (.cons (k := 14) rfl (.cons (k := 15) rfl (.cons (k := 16) rfl .nil)))))) ?_
  refine CW.block ?_
  -- STOP: loop; todo top: ["code", ["loop", ["seq", ["region", 4, [{"d": 17, "op": ["binOp", "Go.BinOp.lss", 3, ["t", 16], ["t", 15], 3], "ty": 0, "pos": "mac.go:34", "after": [], "guard": null}], false], ["seq", ["cond", ["t"
  refine CW.loop (γ := Nat × Option Addr × Nat) (fun g => g.1 ≤ qs.length ∧ (after (padB key 54#8 ++ joined (qs.take g.1))).2.length ≤ g.2.2)
    (fun g => [(0, .slice p key.length kcap), (4, .pointer (some ⟨b1, 0, none⟩)), (5, .pointer (some ⟨hh, 0, none⟩)), (14, .slice pp qs.length cap), (15, .int .i64 (qs.length : Int)), (16, .int .i64 (g.1 : Int))])
    (fun g => sls g.2.1 1 (after (padB key 54#8 ++ joined (qs.take g.1))).2.length (bytes (after (padB key 54#8 ++ joined (qs.take g.1))).2) :: Base)
    (fun g => [hcel hh (after (padB key 54#8 ++ joined (qs.take g.1))).1 g.2.1 (after (padB key 54#8 ++ joined (qs.take g.1))).2.length g.2.2 (padB key 54#8 ++ joined (qs.take g.1)).length, cel b1 (List.replicate 32 (U8 0#8)) 133])
    (fun g => qs.length - g.1) (0, p1, c1) ⟨by omega, by simpa [joined] using hc1⟩ (.cons rfl (.cons rfl (.cons rfl (.cons rfl (.cons rfl (.cons rfl .nil))))))
    (fun w h => by
      have e : padB key 54#8 ++ joined (qs.take 0) = padB key 54#8 := by simp [joined]
      dsimp only
      rw [e]
      exact h.rea (fun x hx => by
        rcases List.mem_cons.1 hx with rfl | hx
        · exact List.Mem.head _
        · exact List.mem_cons_of_mem _ (List.mem_cons_of_mem _ (by simpa using hx))) (by repeat (first | exact Rea.nil | (apply Rea.cons; (solve | (repeat (first | exact Del.here | apply Del.there))))))) ?_
  rintro ⟨i, p', c'⟩ ⟨hi, hc⟩
  dsimp only at hi hc ⊢
  have hr := after_rest (padB key 54#8 ++ joined (qs.take i))
  have hle0 := joined_le qs i
  refine CW.seq ?_
  refine CW.region (ef := []) (bk := []) ?_
  refine RL.bin rfl rfl rfl rfl rfl rfl ?_
  refine RL.nil ?_
  refine NQ.seq ?_
  refine CW.seq ?_
  -- STOP: if; todo top: ["code", ["cond", ["t", 17], ["skip"], ["exit", 0]]]
  refine CW.cond rfl (fun hlt => ?_) (fun hlt => ?_)
  ·
    have hlt : i < qs.length := by simp at hlt; omega
    refine CW.fact (p := pp ≠ none) (fun w hC e => by
      have := sls_nil (hC.s.i _ (List.mem_cons_of_mem _ hmp)) e
      omega) (fun hpp => ?_)
    obtain ⟨a, rfl⟩ : ∃ a, pp = some a := by
      cases pp with
      | none => exact absurd rfl hpp
      | some a => exact ⟨a, rfl⟩
    have hv : (qs.map Part.v)[i * 1]? = some (qs[i]).v := by simp [hlt]
    have hmi' := hmi (qs[i]) (List.getElem_mem _)
    refine CW.skip ?_
    refine NQ.seq ?_
    refine CW.seq ?_
    refine CW.block ?_
    refine CW.seq ?_
    refine CW.region (ef := []) (bk := []) ?_
    -- STOP: op; op 0: d=18 ["indexAddr", 281, ["t", 14], ["t", 16]] guard=None (mac.go:34)
    refine RL.idx (j := i) Try.runUnderlying281 Try.sizeOf95 rfl rfl rfl rfl rfl rfl hlt ?_
    -- STOP: op; op 1: d=19 ["load", 95, ["t", 18]] guard=None (mac.go:34)
    refine RL.load Try.isAgg95 rfl rfl rfl rfl (Rd.getS (List.mem_cons_of_mem _ hmp) hv) ?_
    refine RL.assign rfl rfl rfl rfl ?_
    refine RL.nil ?_
    refine NQ.seq ?_
    refine CW.region (ef := [2]) (bk := [2]) ?_
    refine RL.move rfl rfl rfl rfl ?_
    refine RL.move rfl rfl rfl rfl ?_
    -- STOP: op; op 2: d=22 ["call", ["f", 169], [["t", 20], ["t", 21]], [301, 95]] guard=None (mac.go:35)
    have hj := joined_succ hlt
    have hle := joined_le qs (i + 1)
    rw [hj, List.length_append] at hle
    refine RL.write (n := (padB key 54#8 ++ joined (qs.take i)).length) (p := p') (q := qs[i].p) (c2 := qs[i].c) (m := qs[i].m) hr.1 hc hr.2.1 (by rw [List.length_append, padB_len]; omega) rfl rfl rfl rfl rfl rfl (List.Mem.head _) (by repeat (first | exact Pick.nil | apply Pick.take | apply Pick.leave)) (.inI (List.mem_cons_of_mem _ hmi') .nil) ?_
    intro p2 c2 hc2
    rw [after_append, List.append_assoc, ← hj] at hc2 ⊢
    refine RL.nil ?_
    refine NQ.block ?_
    refine NQ.seq ?_
    refine CW.only (.cons (k := 0) rfl (.cons (k := 4) rfl (.cons (k := 5) rfl (.cons (k := 14) rfl (.cons (k := 15) rfl (.cons (k := 16) rfl .nil)))))) ?_
    refine CW.region (ef := []) (bk := []) ?_
    refine RL.binX rfl rfl rfl rfl rfl rfl (wrapV_i64 (by omega) (by omega)) ?_
    refine RL.move rfl rfl rfl rfl ?_
    refine RL.nil ?_
    -- STOP: round; todo top: ["N"]
    refine NQ.round (g := (i, p', c')) (i + 1, p2, c2) ⟨hlt, hc2⟩ (by show qs.length - (i + 1) < qs.length - i; omega) (.cons rfl (.cons rfl (.cons rfl (.cons rfl (.cons rfl (.cons rfl .nil)))))) (fun w h => ?_)
    dsimp only
    rw [show (padB key 54#8 ++ joined (qs.take (i + 1))).length = (padB key 54#8 ++ joined (qs.take i)).length + qs[i].m.length by rw [hj]; simp [Nat.add_assoc]]
    exact h.les (fun x hx => by
      rcases List.mem_cons.1 hx with rfl | hx
      · exact List.Mem.head _
      · exact List.mem_cons_of_mem _ (List.mem_cons_of_mem _ hx)) (Les.refl _)
  ·
    have hil : i = qs.length := by simp at hlt; omega
    subst hil
    rw [List.take_length] at hr hc hle0 ⊢
    generalize hX : padB key 54#8 ++ joined qs = X at hr hc ⊢
    have hXl : X.length ≤ 200000000 := by rw [← hX, List.length_append, padB_len]; omega
    refine CW.exit ?_
    refine XQ.seq ?_
    refine XQ.seq ?_
    refine XQ.hit ?_
    refine NQ.seq ?_
    refine CW.seq ?_
    refine CW.region (ef := [2, 3]) (bk := [3]) ?_
    refine RL.move rfl rfl rfl rfl ?_
    refine RL.callv (sum_after hh p' c' X (by omega)) Try.call170 rfl rfl rfl rfl (by repeat (first | exact Lend.nil | (refine Lend.inI ?_ ?_; (solve | (repeat (first | exact List.Mem.head _ | apply List.Mem.tail)))) | (refine Lend.inH ?_ ?_; (solve | (repeat (first | exact List.Mem.head _ | apply List.Mem.tail)))))) ?_
    refine RL.alloc (cs := List.replicate 32 (U8 0#8)) Try.zeroValue133 rfl rfl rfl rfl rfl ?_
    intro b2
    refine RL.storeW Try.sizeOf133 rfl rfl rfl rfl rfl rfl rfl (by first | rfl | exact ones_map one8 _ | exact ones_map (fun _ => rfl) _) (by repeat (first | exact Upd.here | apply Upd.there)) (by first | rfl | assumption | (simp only [List.length_map]; assumption) | (simp only [List.length_map, List.length_replicate, padK_len, padB_len, sha_length, dig_length, macCode_len]; done) | (simp; done)) (by first | rfl | assumption | (simp only [List.length_map]; assumption) | (simp only [List.length_map, List.length_replicate, padK_len, padB_len, sha_length, dig_length, macCode_len]; done) | (simp; done)) ?_
    refine RL.nil ?_
    refine NQ.seq ?_
    refine CW.only (.cons (k := 0) rfl (.cons (k := 4) rfl (.cons (k := 8) rfl .nil))) ?_
    refine CW.seq ?_
    refine CW.regionD (Sq.of [0, 2, 1, 3, 4, 5]) [1, 3, 4, 5] [5] [0, 2] mixed (by kernel_rfl) ?_
    refine RL.move rfl rfl rfl rfl ?_
    refine RL.sliceAll Try.runUnderlying133 Try.sizeOf5 (by decide) rfl rfl rfl rfl ?_
    refine RL.call (pad_any p kcap key hkb 92#8) Try.call190 rfl rfl rfl rfl rfl (by repeat (first | exact Pick.nil | apply Pick.take | apply Pick.leave)) (.inI (by simp [hmk]) .nil) (.inl rfl) ?_
    -- STOP: called; op 3: d=29 ["buildSlice", 281, 2, [[0, ["t", 27]], [1, ["t", 28]]]] guard=None (mac.go:38)
    rintro _ _ _ ⟨bq, rfl, rfl, rfl⟩
    refine RL.buildSlice [_, _] Try.runUnderlying281 Try.sizeOf95 Try.zeroValue95 rfl rfl (by decide) (by decide) rfl rfl rfl rfl rfl rfl ?_
    intro b3
    refine RL.callv (of_any (some ⟨b3, 0, none⟩) 2 [⟨some ⟨bq, 0, none⟩, 64, padB key 92#8⟩, ⟨some ⟨b2, 0, none⟩, 32, sha X⟩] (by simp) (by rw [joined_two]; simp [padB_len, sha_length])) Try.call119 rfl rfl rfl rfl (Lend.allX (by repeat (first | exact List.Mem.head _ | apply List.Mem.tail)) rfl (by simp [padB_len, sha_length]) (Lend.all (by repeat (first | exact List.Mem.head _ | apply List.Mem.tail)) (by simp) (Lend.all (by repeat (first | exact List.Mem.head _ | apply List.Mem.tail)) (by simp) .nil))) ?_
    refine RL.storeW Try.sizeOf133 rfl rfl rfl rfl rfl rfl rfl (by first | rfl | exact ones_map one8 _ | exact ones_map (fun _ => rfl) _) (by repeat (first | exact Upd.here | apply Upd.there)) (by first | rfl | assumption | (simp only [List.length_map]; assumption) | (simp only [List.length_map, List.length_replicate, padK_len, padB_len, sha_length, dig_length, macCode_len]; done) | (simp; done)) (by first | rfl | assumption | (simp only [List.length_map]; assumption) | (simp only [List.length_map, List.length_replicate, padK_len, padB_len, sha_length, dig_length, macCode_len]; done) | (simp; done)) ?_
    refine RL.nil ?_
    refine NQ.seq ?_
    refine CW.only (.cons (k := 4) rfl .nil) ?_
    refine CW.ret ?_
    -- STOP: ret; end
    exact RQ.post (resW rfl rfl Try.isAgg133 Try.sizeOf133 (by repeat (first | exact List.Mem.head _ | apply List.Mem.tail)) (by simp [sha_length])) (Split.none _) ⟨by rw [joined_two, ← hX]; rfl, rfl, rfl⟩
theorem code_n (p : Option Addr) (n kcap : Nat) (key : List B8) (hk : key.length = n) (hkb : n ≤ 1000000000) (pp : Option Addr) (qn cap : Nat) (qs : List Part) (hq : qs.length = qn) (hn : qn ≤ 1000000) (hb : (joined qs).length ≤ 100000000) :
    Spc Try.prog 147 #[.slice p n kcap, .slice pp qn cap] (sls p 1 n (bytes key) :: sls pp 1 qn (qs.map Part.v) :: qs.map Part.i) [] (Is (.agg (bytes (macCode key (joined qs))).toArray)) := by
  subst hk; subst hq; exact code_any p kcap key hkb pp cap qs hn hb
end Go.Proofs.Ytkkfdoippibfkaa
