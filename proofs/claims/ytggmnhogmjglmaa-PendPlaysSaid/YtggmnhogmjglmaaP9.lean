import Derived.Test.YtggmnhogmjglmaaP8
import Derived.Test.YtggmnhogmjglmaaF5
namespace Go.Proofs.Ytggmnhogmjglmaa
open Go.PK
/-! ### Both buffers alike -/
def ab (x : Pq × FrO) : Pq × Fr := (x.1, x.2.f)
theorem ltQ_irrefl (p : Pq) : ¬ ltQ p p := by simp [ltQ]
theorem ltQ_trans {p q r : Pq} (h1 : ltQ p q) (h2 : ltQ q r) : ltQ p r := by simp only [ltQ] at *; omega
theorem ltQ_tri {p q : Pq} (h1 : ¬ ltQ p q) (h2 : p ≠ q) : ltQ q p := by
  obtain ⟨a, b⟩ := p; obtain ⟨c, d⟩ := q
  have h2' : ¬ (a = c ∧ b = d) := fun h => h2 (by rw [h.1, h.2])
  simp only [ltQ] at *; omega
structure PAl (c R : Bq) : Prop where
  p : (c.map ab).Perm (R.map ab)
  s : (keysQ R).Pairwise ltQ
  co : ∀ x ∈ c, x.2.Ok
  ro : ∀ x ∈ R, x.2.Ok
  l : R.length ≤ 16
theorem keys_ab (c : Bq) : keysQ c = (c.map ab).map (·.1) := by simp [keysQ, ab, Function.comp_def]
theorem PAl.k {c R : Bq} (h : PAl c R) : (keysQ c).Perm (keysQ R) := by rw [keys_ab, keys_ab]; exact h.p.map _
theorem PAl.len {c R : Bq} (h : PAl c R) : c.length = R.length := by simpa using h.p.length_eq
theorem sorted_nd {l : List Pq} (h : l.Pairwise ltQ) : l.Nodup := h.imp (fun {a b} hab e => by subst e; exact ltQ_irrefl _ hab)
theorem PAl.nd {c R : Bq} (h : PAl c R) : (keysQ c).Nodup := h.k.nodup_iff.2 (sorted_nd h.s)
theorem PAl.e {c R : Bq} (h : PAl c R) (p : Pq) : putE (keysQ c) p = putE (keysQ R) p := by
  have h1 : (p ∈ keysQ c) = (p ∈ keysQ R) := propext h.k.mem_iff
  have h2 : (keysQ c).length = (keysQ R).length := h.k.length_eq
  unfold putE
  rw [h2]
  by_cases h3 : p.1 = 0
  · rw [if_pos h3, if_pos h3]
  · rw [if_neg h3, if_neg h3]
    by_cases h4 : p ∈ keysQ R
    · rw [if_pos h4, if_pos (h1 ▸ h4)]
    · rw [if_neg h4, if_neg (h1 ▸ h4)]
theorem insL_cons (a : Pq × FrO) (R : Bq) (p : Pq) (x : FrO) : insL (a :: R) p x = if ltQ a.1 p then a :: insL R p x else (p, x) :: a :: R := by
  unfold insL
  rw [insQ]
  split <;> simp
theorem insL_perm (R : Bq) (p : Pq) (x : FrO) : (insL R p x).Perm ((p, x) :: R) := by
  unfold insL
  refine List.perm_middle.trans ?_
  rw [List.take_append_drop]
theorem insL_sorted {p : Pq} {x : FrO} : ∀ {R : Bq}, (keysQ R).Pairwise ltQ → p ∉ keysQ R → (keysQ (insL R p x)).Pairwise ltQ
  | [], _, _ => by simp [insL, insQ, keysQ]
  | a :: R, h, hp => by
    rw [insL_cons]
    have h' : (∀ q ∈ keysQ R, ltQ a.1 q) ∧ (keysQ R).Pairwise ltQ := List.pairwise_cons.1 h
    simp only [keysQ, List.map_cons, List.mem_cons, not_or] at hp
    split
    · next hlt =>
      refine List.pairwise_cons.2 ⟨fun q hq => ?_, insL_sorted h'.2 hp.2⟩
      have hm := ((insL_perm R p x).map Prod.fst).mem_iff.1 hq
      rcases List.mem_cons.1 hm with hm | hm
      · rw [hm]; exact hlt
      · exact h'.1 q hm
    · next hlt =>
      have hpa : ltQ p a.1 := ltQ_tri hlt (fun e => hp.1 e.symm)
      refine List.pairwise_cons.2 ⟨fun q hq => ?_, h⟩
      rcases List.mem_cons.1 hq with hq | hq
      · rw [hq]; exact hpa
      · exact ltQ_trans hpa (h'.1 q hq)
theorem PAl.put {c R : Bq} (h : PAl c R) {p : Pq} {f : Fr} {e e' : Int} {c' R' : Bq} {I1 I2 : List It} (h1 : PutO c p f e c' I1) (h2 : RPutO R p f e' R' I2) (hf : f.Ok) (hb : f.b.length ≤ 100000) : e = e' ∧ PAl c' R' := by
  have he := h.e p
  cases h1 with
  | no a b =>
    cases h2 with
    | no a' b' => exact ⟨by rw [← a, ← a', he], h⟩
    | yes x hx a' => exact absurd (by rw [← a, he, a']) b
  | yes x hx a =>
    cases h2 with
    | no a' b' => exact absurd (by rw [← a', ← he, a]) b'
    | yes z hz a' =>
      have hm : p ∉ keysQ R := by
        intro hm
        unfold putE at a'
        split at a'
        · cases a'
        · exact absurd a' (by first | decide | (rw [if_pos hm]; decide))
      have hl : R.length ≠ 16 := fun e => putE_16 (by simpa [keysQ] using e) a'
      have hxo : x.Ok := ⟨by rw [hx]; exact hf, by rw [hx]; exact hb⟩
      have hzo : z.Ok := ⟨by rw [hz]; exact hf, by rw [hz]; exact hb⟩
      have hpp := insL_perm R p z
      refine ⟨rfl, ?_, insL_sorted h.s hm, fun y hy => ?_, fun y hy => ?_, ?_⟩
      · rw [List.map_append]
        refine (List.perm_append_comm.trans ?_).trans (hpp.map ab).symm
        show (ab (p, x) :: c.map ab).Perm (ab (p, z) :: R.map ab)
        rw [show ab (p, x) = ab (p, z) by simp [ab, hx, hz]]
        exact h.p.cons _
      · rcases List.mem_append.1 hy with hy | hy
        · exact h.co y hy
        · rw [List.mem_singleton] at hy; subst hy; exact hxo
      · rcases List.mem_cons.1 (hpp.mem_iff.1 hy) with hy | hy
        · subst hy; exact hzo
        · exact h.ro y hy
      · have := hpp.length_eq
        have := h.l
        simp at *; omega
theorem filter_ab (iv : Int) (l : Bq) : (l.filter (upTo iv)).map ab = (l.map ab).filter fun z => decide (z.1.1 ≤ iv) := by
  rw [List.filter_map]; rfl
theorem filter_ab' (iv : Int) (l : Bq) : (l.filter fun x => !upTo iv x).map ab = (l.map ab).filter fun z => !decide (z.1.1 ≤ iv) := by
  rw [List.filter_map]; rfl
theorem PAl.take {c R : Bq} (h : PAl c R) {iv : Int} {T c' : Bq} (hT : TakeO c iv T c') : PAl c' (rLeft iv R) ∧ T.map ab = (rOut iv R).map ab := by
  have hs1 : (keysQ (rLeft iv R)).Pairwise ltQ := h.s.sublist (List.filter_sublist.map _)
  have hs2 : (keysQ (rOut iv R)).Pairwise ltQ := h.s.sublist (List.filter_sublist.map _)
  have f1 : (T ++ c').filter (upTo iv) = T := by
    rw [List.filter_append, List.filter_eq_self.2 (fun x hx => by simpa [upTo] using hT.le x hx), List.filter_eq_nil_iff.2 (fun x hx => by have := hT.gt x hx; simp [upTo]; omega), List.append_nil]
  have f2 : (T ++ c').filter (fun x => !upTo iv x) = c' := by
    rw [List.filter_append, List.filter_eq_nil_iff.2 (fun x (hx : x ∈ T) => by have := hT.le x hx; simp [upTo]; omega), List.filter_eq_self.2 (fun x (hx : x ∈ c') => by have := hT.gt x hx; simp [upTo]; omega), List.nil_append]
  have p1 : (T.map ab).Perm ((rOut iv R).map ab) := by
    rw [rOut, filter_ab, ← f1, filter_ab]
    exact ((hT.p.map ab).trans h.p).filter _
  have p2 : (c'.map ab).Perm ((rLeft iv R).map ab) := by
    rw [rLeft, filter_ab', ← f2, filter_ab']
    exact ((hT.p.map ab).trans h.p).filter _
  refine ⟨⟨p2, hs1, (hT.ok h.co).2, fun x hx => h.ro x (List.mem_filter.1 hx).1, Nat.le_trans (rLeft_le _ _) h.l⟩, ?_⟩
  refine p1.eq_of_pairwise (le := fun x y => ltQ x.1 y.1) (fun x y _ _ h1 h2 => absurd (ltQ_trans h1 h2) (ltQ_irrefl _)) ?_ ?_
  · have := hT.s
    rw [keys_ab] at this
    exact List.pairwise_map.1 this
  · rw [keys_ab] at hs2
    exact List.pairwise_map.1 hs2
theorem PAl.drop {c R : Bq} (h : PAl c R) {iv : Int} {n : Nat} {c' : Bq} (hD : DropO c iv n c') : PAl c' (rDropL iv R) ∧ n = rDropN iv R := by
  cases hD with
  | no h0 => rw [rDropL, rDropN, if_pos h0, if_pos h0]; exact ⟨h, rfl⟩
  | yes h0 ht =>
    obtain ⟨h1, h2⟩ := h.take ht
    rw [rDropL, rDropN, if_neg h0, if_neg h0]
    refine ⟨h1, ?_⟩
    have := congrArg List.length h2
    simpa using this
theorem lk_ab {p : Pq} : ∀ (c : Bq), (lkQ p c).map (·.f) = (((c.map ab).find? fun z => decide (z.1 = p)).map (·.2))
  | [] => rfl
  | (q, x) :: c => by
    rw [lkQ]
    by_cases h : p = q
    · subst h; simp [ab]
    · have h' : ¬ q = p := fun e => h e.symm
      rw [if_neg h, lk_ab c]; simp [ab, h']
theorem PAl.get {c R : Bq} (h : PAl c R) (p : Pq) : (lkQ p c).map (·.f) = (lkQ p R).map (·.f) := by
  cases hc : lkQ p c with
  | none =>
    have : p ∉ keysQ R := fun hm => lkQ_none.1 hc (h.k.mem_iff.2 hm)
    rw [lkQ_none.2 this]
  | some x =>
    have h1 : ab (p, x) ∈ R.map ab := h.p.mem_iff.1 (List.mem_map.2 ⟨_, lkQ_some hc, rfl⟩)
    obtain ⟨⟨q, z⟩, h2, h3⟩ := List.mem_map.1 h1
    simp only [ab, Prod.mk.injEq] at h3
    obtain ⟨rfl, h3⟩ := h3
    rw [lkQ_mem (sorted_nd h.s) h2]
    simp [h3]
theorem PAl.pls {c R : Bq} (h : PAl c R) : plsQ c = keysQ R := by
  refine sort_is h.k ?_
  refine h.s.imp (fun {a b} hab => ?_)
  obtain ⟨x, y⟩ := a; obtain ⟨z, w⟩ := b
  simp only [ltQ] at hab
  simp [lexLe]; omega
theorem PAl.zero : PAl [] [] := ⟨List.Perm.refl _, by simp [keysQ], fun x hx => (by cases hx), fun x hx => (by cases hx), by decide⟩
/-! ### Get of the program -/
def GetR (f : Fr) (s : Bool) : Value → List It → List It → Prop := fun v I' H' => ∃ ob cp, v = .tuple #[.agg (f.cells (slO ob f.b.length cp)).toArray, .bool s] ∧ I' = [] ∧ H' = [own ob cp 5 1 f.b.length (bytes f.b)]
theorem qget_any (b r : Nat) (c : Bq) (p : Pq) (hc : ∀ x ∈ c, x.2.Ok) :
    Spc Try.prog 22 #[.pointer (some ⟨b, 0, none⟩), .agg #[.int .u32 p.1, .int .u8 p.2]] [bufI b r, mapQ r c, bodyO ((lkQ p c).getD fro0)] [] (GetR ((lkQ p c).getD fro0).f (lkQ p c).isSome) := by
  have hx0 : ((lkQ p c).getD fro0).Ok := by
    cases h : lkQ p c with
    | none => exact fro0_ok
    | some x => exact hc _ (lkQ_some h)
  have hl0 := fro_len hx0
  have hlk : Value.tuple #[(lookV (plq p) (encQ c)).getD (frV fro0), .bool (lookV (plq p) (encQ c)).isSome] = .tuple #[frV ((lkQ p c).getD fro0), .bool (lkQ p c).isSome] := by rw [atQ_enc, isQ_enc]
  generalize hx : (lkQ p c).getD fro0 = x at hx0 hl0 hlk ⊢
  refine Spc.enter Try.func22 rfl rfl rfl (fun w0 hw0 => ?_)
  refine CW.seq ?_
  refine CW.region (ef := [0, 1]) (bk := []) ?_
  refine RL.box rfl rfl rfl rfl rfl rfl ?_
  intro b1
  refine RL.alloc Try.zeroValue34 rfl rfl rfl rfl rfl ?_
  intro b2
  refine RL.assign rfl rfl rfl rfl ?_
  refine RL.nil ?_
  refine NQ.seq ?_
  refine CW.seq ?_
  refine CW.seq ?_
  refine CW.region (ef := []) (bk := []) ?_
  refine RL.move rfl rfl rfl rfl ?_
  refine RL.callvq (qis_yes b r) Try.call36 rfl rfl rfl rfl ?_
  refine RL.not rfl rfl rfl rfl ?_
  refine RL.nil ?_
  refine NQ.seq ?_
  refine CW.condF rfl (rfl) ?_
  refine CW.skip ?_
  refine NQ.seq ?_
  refine CW.seq ?_
  refine CW.regionD (Sq.of [0, 1, 2, 3, 4, 5, 6, 7, 8, 9, 10, 11]) [9, 10] [10] [0, 1, 2, 6, 7, 8, 11] mixed (by kernel_rfl) ?_
  refine RL.move rfl rfl rfl rfl ?_
  refine RL.nilCheck rfl rfl rfl rfl ?_
  refine RL.fieldAddr fa_68_0 rfl rfl rfl rfl ?_
  refine RL.loadq Try.isAgg66 rfl rfl rfl rfl ?_
  first | refine RL.loadM Try.isAgg28 Try.sizeOf28 rfl rfl rfl rfl (by assumption) ?_ | refine RL.loadA Try.isAgg28 Try.sizeOf28 rfl rfl rfl rfl (by first | assumption | (apply RdsI.rds; assumption)) (by first | rfl | assumption | (simp only [List.length_map]; assumption) | (simp only [List.length_map, List.length_replicate, hl0]; done) | (simp; done)) ?_ | refine RL.loadW Try.isAgg28 Try.sizeOf28 rfl rfl rfl rfl (by (solve | (repeat (first | exact List.Mem.head _ | apply List.Mem.tail)))) (by first | rfl | assumption | (simp only [List.length_map]; assumption) | (simp only [List.length_map, List.length_replicate, hl0]; done) | (simp; done)) ?_
  refine RL.lookupOk keyQ Try.runUnderlying66 Try.zeroValue34 rfl rfl rfl rfl rfl ⟨p, rfl⟩ (MapAt.told (List.Mem.tail _ (List.Mem.head _))) ?_
  refine RL.cast (d := 18) rfl hlk ?_
  refine RL.move rfl rfl rfl rfl ?_
  refine RL.extract rfl rfl rfl rfl rfl ?_
  refine RL.extract rfl rfl rfl rfl rfl ?_
  refine RL.alloc Try.zeroValue34 rfl rfl rfl rfl rfl ?_
  intro b3
  refine RL.storeW Try.sizeOf34 rfl rfl rfl rfl rfl rfl rfl (ones_fr _ rfl) (Upd.here) (by first | rfl | assumption | (simp only [List.length_map]; assumption) | (simp only [List.length_map, List.length_replicate, hl0]; done) | (simp; done)) rfl ?_
  refine RL.assign rfl rfl rfl rfl ?_
  refine RL.nil ?_
  refine NQ.seq ?_
  refine CW.only (.cons (k := 4) rfl (.cons (k := 6) rfl (.cons (k := 7) rfl .nil))) ?_
  refine CW.seq ?_
  refine CW.region (ef := [1, 3]) (bk := [3]) ?_
  first | refine RL.loadM Try.isAgg34 Try.sizeOf34 rfl rfl rfl rfl (by assumption) ?_ | refine RL.loadA Try.isAgg34 Try.sizeOf34 rfl rfl rfl rfl (by first | assumption | (apply RdsI.rds; assumption)) (by first | rfl | assumption | (simp only [List.length_map]; assumption) | (simp only [List.length_map, List.length_replicate, hl0]; done) | (simp; done)) ?_ | refine RL.loadW Try.isAgg34 Try.sizeOf34 rfl rfl rfl rfl (by (solve | (repeat (first | exact List.Mem.head _ | apply List.Mem.tail)))) (by first | rfl | assumption | (simp only [List.length_map]; assumption) | (simp only [List.length_map, List.length_replicate, hl0]; done) | (simp; done)) ?_
  refine RL.call (own_any x.f (x.ob.map fun b => ⟨b, 0, none⟩) x.cp x.f.b.length hx0.f rfl hx0.b) Try.call37 rfl rfl rfl rfl rfl (by repeat (first | exact Pick.nil | apply Pick.take | apply Pick.leave)) (Lend.ownI (List.Mem.tail _ (List.Mem.tail _ (List.Mem.head _))) .nil) (.inl rfl) ?_
  rintro _ _ _ ⟨ob1, cap1, rfl, rfl, rfl, ho1⟩
  refine RL.move rfl rfl rfl rfl ?_
  refine RL.storeW Try.sizeOf34 rfl rfl rfl rfl rfl rfl rfl (ones_fr _ rfl) (by repeat (first | exact Upd.here | apply Upd.there)) (fr_len hx0.f.tag _) rfl ?_
  refine RL.assign rfl rfl rfl rfl ?_
  refine RL.nil ?_
  refine NQ.seq ?_
  refine CW.ret ?_
  refine RQ.rea (fun _ h => h) (H' := [own ob1 cap1 5 1 x.f.b.length (bytes x.f.b), cel b2 (x.f.cells (slO ob1 x.f.b.length cap1)) 34]) (by repeat (first | exact Rea.nil | (apply Rea.cons; (solve | (repeat (first | exact Del.here | apply Del.there)))))) ?_
  exact RQ.post (resWT rfl rfl rfl Try.isAgg34 Try.sizeOf34 (by repeat (first | exact List.Mem.head _ | apply List.Mem.tail)) (fr_len hx0.f.tag _)) (.keep (.drop .nil)) ⟨ob1, cap1, rfl, rfl, rfl⟩
/-! ### The same items -/
theorem ne_plq (x0 x1 y0 y1 : Int) (x y : Operand) (w : World) : (do eqGuard .neq 43 x y (.agg #[.int .u32 x0, .int .u8 x1]) (.agg #[.int .u32 y0, .int .u8 y1]); binOp .neq 43 (.agg #[.int .u32 x0, .int .u8 x1]) (.agg #[.int .u32 y0, .int .u8 y1]) : Sem Value).run Try.prog w = .ok (.bool (!(x0 == y0 && x1 == y1))) w := by
  simp [run_eqGuard_agg, run_neq_struct, run_equalIn_struct, Program.fieldsOf, Op.eqFields, Go.part, go_sem]
  by_cases h1 : x0 = y0 <;> by_cases h2 : x1 = y1 <;> simp [h1, h2]
/-- Frames of one's own are the same. -/
theorem frsame_o {x z : FrO} (h : x.f = z.f) (hf : z.f.Ok) : Spc Try.prog 25 #[frV x, frV z] [sls (x.ob.map fun b => ⟨b, 0, none⟩) 1 x.f.b.length (bytes x.f.b), sls (z.ob.map fun b => ⟨b, 0, none⟩) 1 z.f.b.length (bytes z.f.b)] [] (Is (.bool true)) := by
  obtain ⟨f, ob, cp⟩ := x
  subst h
  exact frsame_refl z.f _ _ _ _ _ _ hf
theorem items_ok (oa ob : Option Nat) (ca cb : Nat) (T S : Bq) (I : List It) (hTS : T.map ab = S.map ab) (h1 : own oa ca 41 23 T.length (T.flatMap itc) ∈ I) (h2 : itmI ob cb S.length S ∈ I) (h3 : ∀ x ∈ T, bodyO x.2 ∈ I) (h4 : ∀ x ∈ S, bodyO x.2 ∈ I) (hT : ∀ x ∈ T, x.2.Ok) (hS : ∀ x ∈ S, x.2.Ok) (hl : S.length ≤ 100000) :
    Spc Try.prog 18 #[slO oa T.length ca, slO ob S.length cb] I [] (Is (.bool true)) := by
  have hlen : T.length = S.length := by simpa using congrArg List.length hTS
  refine Spc.fact (p := (oa = none → T.length = 0) ∧ (ob = none → S.length = 0)) (fun w hw => ⟨fun e => by subst e; exact own_none (hw.i _ h1), fun e => by subst e; exact own_none (hw.i _ h2)⟩) (fun hn => ?_)
  refine Spc.enter Try.func18 rfl rfl rfl (fun w0 hw0 => ?_)
  refine CW.seq ?_
  refine CW.region (ef := []) (bk := []) ?_
  refine RL.assign rfl rfl rfl rfl ?_
  refine RL.nil ?_
  refine NQ.seq ?_
  refine CW.seq ?_
  refine CW.seq ?_
  refine CW.region (ef := []) (bk := []) ?_
  refine RL.move rfl rfl rfl rfl ?_
  refine RL.lenS Try.runUnderlying38 rfl rfl rfl rfl ?_
  refine RL.move rfl rfl rfl rfl ?_
  refine RL.lenS Try.runUnderlying52 rfl rfl rfl rfl ?_
  refine RL.bin rfl rfl rfl rfl rfl rfl ?_
  refine RL.nil ?_
  refine NQ.seq ?_
  refine CW.condF rfl (by simp [hlen]) ?_
  refine CW.skip ?_
  refine NQ.seq ?_
  refine CW.only (.cons (k := 0) rfl (.cons (k := 1) rfl .nil)) ?_
  refine CW.seq ?_
  refine CW.seq ?_
  refine CW.region (ef := []) (bk := []) ?_
  refine RL.assign rfl rfl rfl rfl ?_
  refine RL.nil ?_
  refine NQ.seq ?_
  refine CW.block ?_
  refine CW.loop (γ := Nat) (fun k => k ≤ T.length) (fun k => [(0, slO oa T.length ca), (1, slO ob S.length cb), (5, .int .i64 (k : Int))]) (fun _ => I) (fun _ => []) (fun k => T.length - k) 0 (by omega) (.cons rfl (.cons rfl (.cons rfl .nil))) (fun w h => h) ?_
  intro k hk
  refine CW.seq ?_
  refine CW.seq ?_
  refine CW.region (ef := []) (bk := []) ?_
  refine RL.move rfl rfl rfl rfl ?_
  refine RL.move rfl rfl rfl rfl ?_
  refine RL.lenS Try.runUnderlying38 rfl rfl rfl rfl ?_
  refine RL.bin rfl rfl rfl rfl rfl rfl ?_
  refine RL.nil ?_
  refine NQ.seq ?_
  refine CW.cond rfl (fun hlk => ?_) (fun hlk => ?_)
  ·
    have hlk : k < T.length := by simp at hlk; omega
    obtain ⟨qa, rfl⟩ : ∃ q, oa = some q := by
      cases oa with
      | none => exact absurd (hn.1 rfl) (by omega)
      | some q => exact ⟨q, rfl⟩
    obtain ⟨qb, rfl⟩ : ∃ q, ob = some q := by
      cases ob with
      | none => exact absurd (hn.2 rfl) (by omega)
      | some q => exact ⟨q, rfl⟩
    have hx := List.getElem?_eq_getElem hlk
    have hz := List.getElem?_eq_getElem (show k < S.length by omega)
    generalize T[k] = x at hx
    generalize S[k]'(show k < S.length by omega) = z at hz
    have hab : ab x = ab z := by
      have e1 : (T.map ab)[k]? = some (ab x) := by rw [List.getElem?_map, hx]; rfl
      have e2 : (S.map ab)[k]? = some (ab z) := by rw [List.getElem?_map, hz]; rfl
      rw [hTS] at e1; rw [e1] at e2; exact Option.some.inj e2
    have hp : x.1 = z.1 := by have h := congrArg Prod.fst hab; exact h
    have hf : x.2.f = z.2.f := by have h := congrArg Prod.snd hab; exact h
    have mx := List.mem_of_getElem? hx
    have mz := List.mem_of_getElem? hz
    have rx : ∀ H', Rds I H' ⟨qa, 0 + k * 23, none⟩ (itc x) := fun H' => own_rdsI h1 hx (itc_fm_len hT)
    have rz : ∀ H', Rds I H' ⟨qb, 0 + k * 23, none⟩ (itc z) := fun H' => own_rdsI h2 hz (itc_fm_len hS)
    refine CW.skip ?_
    refine NQ.seq ?_
    refine CW.seq ?_
    refine CW.block ?_
    refine CW.seq ?_
    refine CW.regionD (Sq.of [0, 1, 2, 3, 4, 5, 6, 7, 8, 9, 10, 11, 12, 13, 14, 15, 16, 17, 18, 19, 20, 21, 22, 23, 24, 25]) [] [] [0, 1, 2, 3, 6, 7, 8, 9, 11, 12, 13, 14, 15, 16, 18, 19, 20, 21, 24, 25] mixed (by kernel_rfl) ?_
    refine RL.move rfl rfl rfl rfl ?_
    refine RL.move rfl rfl rfl rfl ?_
    refine RL.idxAt (j := k) Try.runUnderlying38 Try.sizeOf41 rfl rfl rfl rfl rfl rfl ((by omega)) ?_
    refine RL.fieldAddr fa_41_0 rfl rfl rfl rfl ?_
    refine RL.loadN (vs := [_, _]) Try.isAgg28 Try.sizeOf28 rfl rfl rfl rfl (Rds.itP (rx _)) ?_
    refine RL.callvq (plain_any x.1) Try.call13 rfl rfl rfl rfl ?_
    refine RL.move rfl rfl rfl rfl ?_
    refine RL.move rfl rfl rfl rfl ?_
    refine RL.idxAt (j := k) Try.runUnderlying52 Try.sizeOf65 rfl rfl rfl rfl rfl rfl ((by omega)) ?_
    refine RL.fieldAddr fa_65_0 rfl rfl rfl rfl ?_
    refine RL.loadN (vs := [_, _]) Try.isAgg43 Try.sizeOf43 rfl rfl rfl rfl (Rds.itP (rz _)) ?_
    refine RL.cmp rfl rfl rfl rfl rfl (ne_plq _ _ _ _ _ _) ?_
    refine RL.move rfl rfl rfl rfl ?_
    apply RL.orB (d := 29) (dp := 42) (l' := (Sq.of [])) rfl (.cons (k := 0) rfl (.cons (k := 1) rfl (.cons (k := 5) rfl .nil)))
    ·
      intro hb13 K13
      refine RL.move rfl rfl rfl rfl ?_
      refine RL.move rfl rfl rfl rfl ?_
      refine RL.idxAt (j := k) Try.runUnderlying38 Try.sizeOf41 rfl rfl rfl rfl rfl rfl ((by omega)) ?_
      refine RL.fieldAddr fa_41_1 rfl rfl rfl rfl ?_
      refine RL.loadA Try.isAgg34 Try.sizeOf34 rfl rfl rfl rfl (Rds.itF (rx _)) (fro_len (hT x mx)) ?_
      refine RL.move rfl rfl rfl rfl ?_
      refine RL.move rfl rfl rfl rfl ?_
      refine RL.idxAt (j := k) Try.runUnderlying52 Try.sizeOf65 rfl rfl rfl rfl rfl rfl ((by omega)) ?_
      refine RL.fieldAddr fa_65_1 rfl rfl rfl rfl ?_
      refine RL.loadA Try.isAgg34 Try.sizeOf34 rfl rfl rfl rfl (Rds.itF (rz _)) (fro_len (hS z mz)) ?_
      refine RL.callv (frsame_o hf (hS z mz).f) Try.call25 rfl rfl rfl rfl (Lend.ownI (h3 x mx) (Lend.ownI (h4 z mz) .nil)) ?_
      refine RL.not rfl rfl rfl rfl ?_
      refine RL.pickF rfl rfl rfl rfl rfl ?_
      exact K13 _ (.cons rfl (.cons (k := 0) rfl (.cons (k := 1) rfl (.cons (k := 5) rfl .nil))))
    ·
      intro hb13 K13
      refine RL.skip rfl rfl rfl rfl ?_
      refine RL.skip rfl rfl rfl rfl ?_
      refine RL.skip rfl rfl rfl rfl ?_
      refine RL.skip rfl rfl rfl rfl ?_
      refine RL.skip rfl rfl rfl rfl ?_
      refine RL.skip rfl rfl rfl rfl ?_
      refine RL.skip rfl rfl rfl rfl ?_
      refine RL.skip rfl rfl rfl rfl ?_
      refine RL.skip rfl rfl rfl rfl ?_
      refine RL.skip rfl rfl rfl rfl ?_
      refine RL.skip rfl rfl rfl rfl ?_
      refine RL.skip rfl rfl rfl rfl ?_
      refine RL.pickT rfl rfl rfl rfl rfl ?_
      exact K13 _ (.cons rfl (.cons (k := 0) rfl (.cons (k := 1) rfl (.cons (k := 5) rfl .nil))))
    refine RL.nil ?_
    refine NQ.seq ?_
    refine CW.condF rfl (by simp [hp]) ?_
    refine CW.skip ?_
    refine NQ.block ?_
    refine NQ.seq ?_
    refine CW.region (ef := []) (bk := []) ?_
    refine RL.move rfl rfl rfl rfl ?_
    refine RL.binX rfl rfl rfl rfl rfl rfl (wrapV_i64 (by omega) (by omega)) ?_
    refine RL.assign rfl rfl rfl rfl ?_
    refine RL.nil ?_
    refine NQ.round (g := k) (k + 1) hlk (by omega) (.cons rfl (.cons rfl (.cons rfl .nil))) (fun w h => h)
  ·
    refine CW.exit ?_
    refine XQ.seq ?_
    refine XQ.seq ?_
    refine XQ.hit ?_
    refine NQ.seq ?_
    refine CW.only .nil ?_
    refine CW.seq ?_
    refine CW.region (ef := []) (bk := []) ?_
    refine RL.assign rfl rfl rfl rfl ?_
    refine RL.nil ?_
    refine NQ.seq ?_
    refine CW.ret ?_
    exact RQ.post (res1 rfl rfl) (Split.none _) ⟨rfl, rfl, rfl⟩
end Go.Proofs.Ytggmnhogmjglmaa
