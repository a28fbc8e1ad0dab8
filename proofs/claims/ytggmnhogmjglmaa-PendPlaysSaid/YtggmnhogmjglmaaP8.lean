import Derived.Test.YtggmnhogmjglmaaP7
namespace Go.Proofs.Ytggmnhogmjglmaa
open Go.PK
/-! ### Put of the reference -/
def insQ (p : Pq) : Bq → Nat
  | [] => 0
  | x :: r => if ltQ x.1 p then insQ p r + 1 else 0
theorem insQ_le (p : Pq) : ∀ R : Bq, insQ p R ≤ R.length
  | [] => by simp [insQ]
  | x :: r => by
    rw [insQ]; split
    · have := insQ_le p r; simp; omega
    · omega
def insL (R : Bq) (p : Pq) (x : FrO) : Bq := R.take (insQ p R) ++ ((p, x) :: R.drop (insQ p R))
theorem insQ_is {p : Pq} : ∀ {R : Bq} {i : Nat}, i ≤ R.length → (∀ (j : Nat) (x : Pq × FrO), j < i → R[j]? = some x → ltQ x.1 p) → (∀ x, R[i]? = some x → ¬ ltQ x.1 p) → insQ p R = i
  | [], i, hi, _, _ => by simp at hi; subst hi; rfl
  | a :: R, 0, _, _, h2 => by rw [insQ, if_neg (h2 a rfl)]
  | a :: R, i + 1, hi, h1, h2 => by
    rw [insQ, if_pos (h1 0 a (by omega) rfl), insQ_is (R := R) (i := i) (by simpa using hi) (fun j o hj hjo => h1 (j + 1) o (by omega) (by simpa using hjo)) (fun o ho => h2 o (by simpa using ho))]
inductive RPutO (R : Bq) (p : Pq) (f : Fr) : Int → Bq → List It → Prop
  | no {e : Int} (h : putE (keysQ R) p = e) (h0 : e ≠ 0) : RPutO R p f e R []
  | yes (x : FrO) (hf : x.f = f) (h : putE (keysQ R) p = 0) : RPutO R p f 0 (insL R p x) [bodyO x]
def RPutR (y : Nat) (R : Bq) (p : Pq) (f : Fr) : Value → List It → List It → Prop := fun v I' H' => ∃ e R' oc cc, v = .int .i64 e ∧ RPutO R p f e R' I' ∧ H' = RBI y R' oc cc
theorem fm_len {l : Bq} (h : ∀ x ∈ l, x.2.Ok) : (l.flatMap itc).length = l.length * 23 := length_flat (itc_fm_len h)
theorem fm_cut {R : Bq} (h : ∀ x ∈ R, x.2.Ok) {i : Nat} (hi : i ≤ R.length) : (R.flatMap itc).take (i * 23) = (R.take i).flatMap itc ∧ (R.flatMap itc).drop (i * 23) = (R.drop i).flatMap itc := by
  have hl : ((R.take i).flatMap itc).length = i * 23 := by rw [fm_len (fun x hx => h x (List.mem_of_mem_take hx)), List.length_take, Nat.min_eq_left hi]
  have he : R.flatMap itc = (R.take i).flatMap itc ++ (R.drop i).flatMap itc := by rw [← List.flatMap_append, List.take_append_drop]
  rw [he]
  exact ⟨List.take_left' hl, List.drop_left' hl⟩
theorem it_src1 {I H : List It} {R : Bq} {ob : Option Nat} {cp i : Nat} {e : TypeId} (h : ∀ x ∈ R, x.2.Ok) (hi : i ≤ R.length) (hc : R.length ≤ cp) (hm : own ob cp e 23 R.length (R.flatMap itc) ∈ H) :
    Src I H (if cp = 0 then ob.map (fun b => ⟨b, 0, none⟩) else (ob.map (fun b => (⟨b, 0, none⟩ : Addr))).map (·.add (0 * 23))) (i - 0) 23 ((R.take i).flatMap itc) := by
  have := Src.sub (lo := 0) (hi := i) (cap := cp) (Src.own (I := I) hm) (by omega) hi (by omega)
  rw [Nat.zero_mul, List.drop_zero, Nat.sub_zero, (fm_cut h hi).1] at this
  simpa using this
theorem it_src2 {I H : List It} {R : Bq} {ob : Option Nat} {cp i : Nat} {e : TypeId} (h : ∀ x ∈ R, x.2.Ok) (hi : i ≤ R.length) (hc : R.length ≤ cp) (hm : own ob cp e 23 R.length (R.flatMap itc) ∈ H) :
    Src I H (if cp = i then ob.map (fun b => ⟨b, 0, none⟩) else (ob.map (fun b => (⟨b, 0, none⟩ : Addr))).map (·.add (i * 23))) (R.length - i) 23 ((R.drop i).flatMap itc) := by
  have := Src.sub (lo := i) (hi := R.length) (cap := cp) (Src.own (I := I) hm) hi (Nat.le_refl _) (by omega)
  rw [(fm_cut h hi).2, List.take_of_length_le (by rw [fm_len (fun x hx => h x (List.mem_of_mem_drop hx)), List.length_drop]; exact Nat.le_refl _)] at this
  exact this
theorem ones_its (R : Bq) : ∀ u ∈ R.flatMap itc, u.oneCell' = true := fun u hu => by
  obtain ⟨o, -, ho⟩ := List.mem_flatMap.1 hu
  exact ones_it o u ho
theorem ins_fin {R : Bq} {i : Nat} {p : Pq} {x : FrO} (hi : i ≤ R.length) (hins : insQ p R = i) (y : Nat) (ob : Option Nat) (cp : Nat) :
    [rbufI y ob (0 + (i - 0) + 1 + (R.length - i)) cp, own ob cp 65 23 (0 + (i - 0) + 1 + (R.length - i)) ([] ++ (R.take i).flatMap itc ++ itc (p, x) ++ (R.drop i).flatMap itc)] = RBI y (insL R p x) ob cp := by
  have h1 : (insL R p x).length = 0 + (i - 0) + 1 + (R.length - i) := by rw [insL, hins]; simp; omega
  have h2 : (insL R p x).flatMap itc = [] ++ (R.take i).flatMap itc ++ itc (p, x) ++ (R.drop i).flatMap itc := by
    rw [insL, hins]; simp
  show _ = [rbufI y ob (insL R p x).length cp, own ob cp 65 23 (insL R p x).length ((insL R p x).flatMap itc)]
  rw [h1, h2]
theorem rput_any (y : Nat) (R : Bq) (ob : Option Nat) (cp : Nat) (p : Pq) (f : Fr) (q : Option Addr) (cc : Nat) (hf : f.Ok) (hb : f.b.length ≤ 100000) (hR : ∀ x ∈ R, x.2.Ok) (hl : R.length ≤ 16) :
    Spc Try.prog 21 #[.pointer (some ⟨y, 0, none⟩), .agg #[.int .u32 p.1, .int .u8 p.2], .agg (f.cells (.slice q f.b.length cc)).toArray] [sls q 1 f.b.length (bytes f.b)] (RBI y R ob cp) (RPutR y R p f) := by
  have hfl := fr_len hf.tag (.slice q f.b.length cc)
  have hx0 : ((lkQ p R).getD fro0).Ok := by
    cases h : lkQ p R with
    | none => exact fro0_ok
    | some x => exact hR _ (lkQ_some h)
  have hl0 := fro_len hx0
  have hit : ∀ x ∈ R, (itc x).length = 23 := itc_fm_len hR
  refine Spc.enter Try.func21 rfl rfl rfl (fun w0 hw0 => ?_)
  refine CW.seq ?_
  refine CW.region (ef := [0, 1]) (bk := []) ?_
  refine RL.box rfl rfl rfl rfl rfl rfl ?_
  intro b1
  refine RL.box rfl rfl rfl rfl rfl rfl ?_
  intro b2
  refine RL.assign rfl rfl rfl rfl ?_
  refine RL.nil ?_
  refine NQ.seq ?_
  refine CW.seq ?_
  refine CW.seq ?_
  refine CW.freezeP (A := [_]) (B := [_, _, _]) (.leave (.take (.leave (.leave .nil)))) rfl ?_
  refine CW.genI (fun J hJ => ?_)
  have mS : sls q 1 f.b.length (bytes f.b) ∈ J := hJ _ (by simp)
  have mP : cel b1 [.int .u32 p.1, .int .u8 p.2] 43 ∈ J := hJ _ (by simp)
  have rP : RdsN J ⟨b1, 0, none⟩ 2 [.int .u32 p.1, .int .u8 p.2] := ⟨fun _ => Rds.allI mP, rfl⟩
  have r0 : RdI J ⟨b1, 0 + 0, none⟩ (.int .u32 p.1) := ⟨fun _ => Rd.celI mP rfl⟩
  clear hJ
  refine CW.region (ef := []) (bk := []) ?_
  refine RL.fieldAddr fa_43_0 rfl rfl rfl rfl ?_
  refine RL.loadq Try.isAgg26 rfl rfl rfl rfl ?_
  refine RL.bin rfl rfl rfl rfl rfl rfl ?_
  refine RL.nil ?_
  refine NQ.seq ?_
  refine CW.cond rfl (fun h0 => ?_) (fun h0 => ?_)
  ·
    refine CW.seq ?_
    refine CW.region (ef := []) (bk := []) ?_
    refine RL.assign rfl rfl rfl rfl ?_
    refine RL.nil ?_
    refine NQ.seq ?_
    refine CW.ret ?_
    refine RQ.seq ?_
    have h0 : p.1 = 0 := by simpa using h0
    exact RQ.post (res1 rfl rfl) (.drop (.keep (.keep .nil))) ⟨2, R, ob, cp, rfl, .no (by rw [putE, if_pos h0]) (by decide), rfl⟩
  ·
    have h0 : ¬ p.1 = 0 := by simpa using h0
    refine CW.skip ?_
    refine NQ.seq ?_
    refine CW.only (.cons (k := 0) rfl (.cons (k := 4) rfl (.cons (k := 5) rfl .nil))) ?_
    refine CW.seq ?_
    refine CW.seq ?_
    refine CW.region (ef := [6, 7]) (bk := [7]) ?_
    refine RL.move rfl rfl rfl rfl ?_
    first | refine RL.loadM Try.isAgg43 Try.sizeOf43 rfl rfl rfl rfl (by assumption) ?_ | refine RL.loadA Try.isAgg43 Try.sizeOf43 rfl rfl rfl rfl (by first | assumption | (apply RdsI.rds; assumption)) (by first | rfl | assumption | (simp only [List.length_map]; assumption) | (simp only [List.length_map, List.length_replicate, hfl, hl0]; done) | (simp; done)) ?_ | refine RL.loadW Try.isAgg43 Try.sizeOf43 rfl rfl rfl rfl (by (solve | (repeat (first | exact List.Mem.head _ | apply List.Mem.tail)))) (by first | rfl | assumption | (simp only [List.length_map]; assumption) | (simp only [List.length_map, List.length_replicate, hfl, hl0]; done) | (simp; done)) ?_
    refine RL.callvq (rget_any y R ob cp p hR (by omega)) Try.call23 rfl rfl rfl rfl ?_
    refine RL.move rfl rfl rfl rfl ?_
    refine RL.extract rfl rfl rfl rfl rfl ?_
    refine RL.extract rfl rfl rfl rfl rfl ?_
    refine RL.alloc Try.zeroValue34 rfl rfl rfl rfl rfl ?_
    intro b3
    refine RL.storeW Try.sizeOf34 rfl rfl rfl rfl rfl rfl rfl (ones_fr _ rfl) (Upd.here) (by first | rfl | assumption | (simp only [List.length_map]; assumption) | (simp only [List.length_map, List.length_replicate, hfl, hl0]; done) | (simp; done)) rfl ?_
    refine RL.assign rfl rfl rfl rfl ?_
    refine RL.nil ?_
    refine NQ.seq ?_
    refine CW.only (.cons (k := 0) rfl (.cons (k := 4) rfl (.cons (k := 5) rfl (.cons (k := 8) rfl .nil)))) ?_
    refine CW.seq ?_
    refine CW.region (ef := []) (bk := []) ?_
    refine RL.move rfl rfl rfl rfl ?_
    refine RL.nil ?_
    refine NQ.seq ?_
    refine CW.cond rfl (fun hi => ?_) (fun hi => ?_)
    ·
      refine CW.seq ?_
      refine CW.region (ef := []) (bk := []) ?_
      refine RL.assign rfl rfl rfl rfl ?_
      refine RL.nil ?_
      refine NQ.seq ?_
      refine CW.ret ?_
      refine RQ.seq ?_
      have hm : p ∈ keysQ R := by
        rcases Decidable.em (p ∈ keysQ R) with h | h
        · exact h
        · rw [lkQ_none.2 h] at hi; cases hi
      exact RQ.post (res1 rfl rfl) (.drop (.drop (.keep (.keep .nil)))) ⟨6, R, ob, cp, rfl, .no (by rw [putE, if_neg h0, if_pos hm]) (by decide), rfl⟩
    ·
      have hm : p ∉ keysQ R := by
        refine lkQ_none.1 ?_
        cases h : lkQ p R with
        | none => rfl
        | some x => rw [h] at hi; cases hi
      refine CW.skip ?_
      refine NQ.seq ?_
      refine CW.seq ?_
      refine CW.seq ?_
      refine CW.region (ef := []) (bk := []) ?_
      refine RL.move rfl rfl rfl rfl ?_
      refine RL.nilCheck rfl rfl rfl rfl ?_
      refine RL.fieldAddr fa_54_0 rfl rfl rfl rfl ?_
      refine RL.loadq Try.isAgg52 rfl rfl rfl rfl ?_
      refine RL.lenS Try.runUnderlying52 rfl rfl rfl rfl ?_
      refine RL.bin rfl rfl rfl rfl rfl rfl ?_
      refine RL.nil ?_
      refine NQ.seq ?_
      refine CW.only (.cons (k := 0) rfl (.cons (k := 4) rfl (.cons (k := 5) rfl (.cons (k := 25) rfl .nil)))) ?_
      refine CW.cond rfl (fun h16 => ?_) (fun h16 => ?_)
      ·
        refine CW.seq ?_
        refine CW.region (ef := []) (bk := []) ?_
        refine RL.assign rfl rfl rfl rfl ?_
        refine RL.nil ?_
        refine NQ.seq ?_
        refine CW.ret ?_
        refine RQ.seq ?_
        have h16 : (keysQ R).length = 16 := by simp [keysQ] at h16 ⊢; omega
        exact RQ.post (res1 rfl rfl) (.drop (.drop (.keep (.keep .nil)))) ⟨4, R, ob, cp, rfl, .no (by rw [putE, if_neg h0, if_neg hm, if_pos h16]) (by decide), rfl⟩
      ·
        have h16 : ¬ (keysQ R).length = 16 := by simp [keysQ] at h16 ⊢; omega
        have he : putE (keysQ R) p = 0 := by rw [putE, if_neg h0, if_neg hm, if_neg h16]
        refine CW.skip ?_
        refine NQ.seq ?_
        refine CW.seq ?_
        refine CW.region (ef := [0, 3, 5]) (bk := [3, 5]) ?_
        refine RL.buildOwn [] Try.runUnderlying30 Try.sizeOf5 Try.zeroValue5 rfl rfl (by decide) (by decide) rfl (by decide) rfl rfl rfl rfl rfl rfl ?_
        intro b4
        refine RL.fieldAddr fa_34_4 rfl rfl rfl rfl ?_
        refine RL.loadq Try.isAgg30 rfl rfl rfl rfl ?_
        refine RL.appendA el_30 rfl rfl rfl rfl rfl rfl rfl (by first | exact ⟨(.take (Pick.none _)), rfl⟩ | exact ⟨(.leave (.take (Pick.none _))), rfl⟩ | exact ⟨(.leave (.leave (.take (Pick.none _)))), rfl⟩ | exact ⟨(.leave (.leave (.leave (.take (Pick.none _))))), rfl⟩ | exact ⟨(.leave (.leave (.leave (.leave (.take (Pick.none _)))))), rfl⟩ | exact ⟨(.leave (.leave (.leave (.leave (.leave (.take (Pick.none _))))))), rfl⟩ | exact ⟨(.leave (.leave (.leave (.leave (.leave (.leave (.take (Pick.none _)))))))), rfl⟩ | exact ⟨(.leave (.leave (.leave (.leave (.leave (.leave (.leave (.take (Pick.none _))))))))), rfl⟩ | exact ⟨(.leave (.leave (.leave (.leave (.leave (.leave (.leave (.leave (.take (Pick.none _)))))))))), rfl⟩ | exact ⟨(.leave (.leave (.leave (.leave (.leave (.leave (.leave (.leave (.leave (.take (Pick.none _))))))))))), rfl⟩) (Src.sls mS) (by first | exact one_map one8 _ | exact ones_spec rfl | exact one_map (fun _ => rfl) _ | (intro u hu; simp at hu; simp [hu, Value.oneCell'])) (by first | omega | (simp only [maxLen]; omega)) (by first | omega | (simp only [maxLen]; omega)) ?_
        intro ob1 cap1 ho1
        refine RL.cast (d := 29) (v' := slO ob1 f.b.length cap1) rfl (by rw [Nat.zero_add]) ?_
        rw [own_is (ob := ob1) (Nat.zero_add f.b.length) (List.nil_append _)]
        refine RL.fieldAddr fa_34_4 rfl rfl rfl rfl ?_
        refine RL.storeSeg (cs := f.cells (.slice q f.b.length cc)) (cs' := f.cells (slO ob1 f.b.length cap1)) (vs := [slO ob1 f.b.length cap1]) [.int .i64 f.kd, .int .i64 f.sr, .int .u32 (f.ep : Int), .int .u64 (f.ct : Int)] [.slice q f.b.length cc] (bytes f.tag) Try.sizeOf30 rfl rfl rfl rfl rfl rfl rfl rfl rfl rfl rfl rfl rfl (by repeat (first | exact Upd.here | apply Upd.there)) ?_
        refine RL.nil ?_
        refine NQ.seq ?_
        refine CW.only (.cons (k := 0) rfl (.cons (k := 4) rfl (.cons (k := 5) rfl .nil))) ?_
        refine CW.seq ?_
        refine CW.region (ef := []) (bk := []) ?_
        refine RL.assign rfl rfl rfl rfl ?_
        refine RL.nil ?_
        refine NQ.seq ?_
        refine CW.seq ?_
        refine CW.fact (p := ob = none → R.length = 0) (fun w hC e => by subst e; exact own_none (hC.s.h (itmI none cp R.length R) (by repeat (first | exact List.Mem.head _ | apply List.Mem.tail)))) (fun hpa => ?_)
        refine CW.fact (p := R.length ≤ cp) (fun w hC => own_cap (hC.s.h (itmI ob cp R.length R) (by repeat (first | exact List.Mem.head _ | apply List.Mem.tail)))) (fun hcl => ?_)
        refine CW.cut [(0, .pointer (some ⟨y, 0, none⟩)), (4, .pointer (some ⟨b1, 0, none⟩)), (5, .pointer (some ⟨b2, 0, none⟩)), (9, .int .i64 (insQ p R : Int))] J (cel b2 (f.cells (slO ob1 f.b.length cap1)) 34 :: bodyO ⟨f, ob1, cap1⟩ :: RBI y R ob cp) ?_ ?_
        ·
          refine CW.block ?_
          refine CW.loop (γ := Nat) (fun i => i ≤ R.length ∧ ∀ (j : Nat) (x : Pq × FrO), j < i → R[j]? = some x → ltQ x.1 p) (fun i => [(0, .pointer (some ⟨y, 0, none⟩)), (4, .pointer (some ⟨b1, 0, none⟩)), (5, .pointer (some ⟨b2, 0, none⟩)), (9, .int .i64 (i : Int))]) (fun _ => J) (fun _ => cel b2 (f.cells (slO ob1 f.b.length cap1)) 34 :: bodyO ⟨f, ob1, cap1⟩ :: RBI y R ob cp) (fun i => R.length - i) 0 ⟨by omega, by omega⟩ (.cons rfl (.cons rfl (.cons rfl (.cons rfl .nil)))) (fun w h => h.rea (fun _ h => h) (by repeat (first | exact Rea.nil | (apply Rea.cons; (solve | (repeat (first | exact Del.here | apply Del.there))))))) ?_
          rintro i ⟨hi2, hn⟩
          refine CW.seq ?_
          refine CW.seq ?_
          refine CW.regionD (Sq.of [0, 1, 2, 3, 4, 5, 6, 7, 8, 9, 10, 11, 12, 13, 14, 15, 16, 17, 18]) [17] [] [0, 1, 2, 3, 5, 6, 7, 8, 9, 10, 12, 13, 14, 18] mixed (by kernel_rfl) ?_
          refine RL.move rfl rfl rfl rfl ?_
          refine RL.move rfl rfl rfl rfl ?_
          refine RL.nilCheck rfl rfl rfl rfl ?_
          refine RL.fieldAddr fa_54_0 rfl rfl rfl rfl ?_
          refine RL.loadq Try.isAgg52 rfl rfl rfl rfl ?_
          refine RL.lenS Try.runUnderlying52 rfl rfl rfl rfl ?_
          refine RL.bin rfl rfl rfl rfl rfl rfl ?_
          refine RL.move rfl rfl rfl rfl ?_
          refine RL.part (d := 38) rfl (fun hlt => ?_) (fun hlt => ?_)
          ·
            have hlt : i < R.length := by simp at hlt; omega
            cases ob with
            | none => exact absurd (hpa rfl) (by omega)
            | some ba =>
            have hx := List.getElem?_eq_getElem hlt
            generalize R[i] = x at hx
            have rx : ∀ I', Rds I' (cel b2 (f.cells (slO ob1 f.b.length cap1)) 34 :: bodyO ⟨f, ob1, cap1⟩ :: RBI y R (some ba) cp) ⟨ba, 0 + i * 23, none⟩ (itc x) := fun I' => own_rds (List.Mem.tail _ (List.Mem.tail _ (List.Mem.tail _ (List.Mem.head _)))) hx hit
            refine RL.move rfl rfl rfl rfl ?_
            refine RL.nilCheck rfl rfl rfl rfl ?_
            refine RL.fieldAddr fa_54_0 rfl rfl rfl rfl ?_
            refine RL.loadq Try.isAgg52 rfl rfl rfl rfl ?_
            refine RL.move rfl rfl rfl rfl ?_
            refine RL.idxAt (j := i) Try.runUnderlying52 Try.sizeOf65 rfl rfl rfl rfl rfl rfl (hlt) ?_
            refine RL.fieldAddr fa_65_0 rfl rfl rfl rfl ?_
            refine RL.loadN (vs := [_, _]) Try.isAgg43 Try.sizeOf43 rfl rfl rfl rfl (Rds.itP (rx _)) ?_
            first | refine RL.loadM Try.isAgg43 Try.sizeOf43 rfl rfl rfl rfl (by assumption) ?_ | refine RL.loadA Try.isAgg43 Try.sizeOf43 rfl rfl rfl rfl (by first | assumption | (apply RdsI.rds; assumption)) (by first | rfl | assumption | (simp only [List.length_map]; assumption) | (simp only [List.length_map, List.length_replicate, hfl, hl0]; done) | (simp; done)) ?_ | refine RL.loadW Try.isAgg43 Try.sizeOf43 rfl rfl rfl rfl (by (solve | (repeat (first | exact List.Mem.head _ | apply List.Mem.tail)))) (by first | rfl | assumption | (simp only [List.length_map]; assumption) | (simp only [List.length_map, List.length_replicate, hfl, hl0]; done) | (simp; done)) ?_
            refine RL.callvq (ahead_any x.1 p) Try.call12 rfl rfl rfl rfl ?_
            refine RL.pickT rfl rfl rfl rfl rfl ?_
            refine RL.nil ?_
            refine NQ.seq ?_
            refine CW.only (.cons (k := 0) rfl (.cons (k := 4) rfl (.cons (k := 5) rfl (.cons (k := 9) rfl (.cons (k := 49) rfl .nil))))) ?_
            refine CW.cond rfl (fun hb => ?_) (fun hb => ?_)
            ·
              refine CW.skip ?_
              refine NQ.seq ?_
              refine CW.block ?_
              refine CW.region (ef := []) (bk := []) ?_
              refine RL.move rfl rfl rfl rfl ?_
              refine RL.binX rfl rfl rfl rfl rfl rfl (wrapV_i64 (by omega) (by omega)) ?_
              refine RL.assign rfl rfl rfl rfl ?_
              refine RL.nil ?_
              refine NQ.block ?_
              have hb : ltQ x.1 p := by simpa using hb
              refine NQ.round (g := i) (i + 1) ⟨hlt, fun j z hj hjx => ?_⟩ (by omega) (.cons rfl (.cons rfl (.cons rfl (.cons rfl .nil)))) (fun _ h => h)
              by_cases hji : j = i
              · subst hji; rw [hx] at hjx; cases hjx; exact hb
              · exact hn j z (by omega) hjx
            ·
              refine CW.exit ?_
              refine XQ.seq ?_
              refine XQ.seq ?_
              refine XQ.hit ?_
              have hins : insQ p R = i := insQ_is hi2 hn (fun z hx' => by rw [hx] at hx'; cases hx'; simpa using hb)
              rw [hins]
              exact NQ.mid (.cons rfl (.cons rfl (.cons rfl (.cons rfl .nil)))) (fun _ h => h)
          ·
            have hin : i = R.length := by simp at hlt; omega
            have hins : insQ p R = i := insQ_is hi2 hn (fun z hx' => by rw [List.getElem?_eq_none (by omega)] at hx'; cases hx')
            refine RL.skip rfl rfl rfl rfl ?_
            refine RL.skip rfl rfl rfl rfl ?_
            refine RL.skip rfl rfl rfl rfl ?_
            refine RL.skip rfl rfl rfl rfl ?_
            refine RL.skip rfl rfl rfl rfl ?_
            refine RL.skip rfl rfl rfl rfl ?_
            refine RL.skip rfl rfl rfl rfl ?_
            refine RL.skip rfl rfl rfl rfl ?_
            refine RL.skip rfl rfl rfl rfl ?_
            refine RL.skip rfl rfl rfl rfl ?_
            refine RL.pickF rfl rfl rfl rfl rfl ?_
            refine RL.nil ?_
            refine NQ.seq ?_
            refine CW.only (.cons (k := 0) rfl (.cons (k := 4) rfl (.cons (k := 5) rfl (.cons (k := 9) rfl (.cons (k := 49) rfl .nil))))) ?_
            refine CW.condF rfl rfl ?_
            refine CW.exit ?_
            refine XQ.seq ?_
            refine XQ.seq ?_
            refine XQ.hit ?_
            rw [hins]
            exact NQ.mid (.cons rfl (.cons rfl (.cons rfl (.cons rfl .nil)))) (fun _ h => h)
        ·
          have hi := insQ_le p R
          have hfo : FrO.Ok ⟨f, ob1, cap1⟩ := ⟨hf, hb⟩
          generalize hins : insQ p R = i at hi
          have hs1 : ∀ {I' H' : List It}, itmI ob cp R.length R ∈ H' → Src I' H' _ (i - 0) 23 ((R.take i).flatMap itc) := fun hm => it_src1 hR hi hcl hm
          have hs2 : ∀ {I' H' : List It}, itmI ob cp R.length R ∈ H' → Src I' H' _ (R.length - i) 23 ((R.drop i).flatMap itc) := fun hm => it_src2 hR hi hcl hm
          refine CW.freezeP (A := [_]) (B := [_, _, _]) (.take (.leave (.leave (.leave .nil)))) rfl ?_
          have mF : cel b2 (f.cells (slO ob1 f.b.length cap1)) 34 ∈ [cel b2 (f.cells (slO ob1 f.b.length cap1)) 34] ++ J := by simp
          refine CW.genI (fun J3 hJ3 => ?_)
          have rF : RdsN J3 ⟨b2, 0, none⟩ 21 (f.cells (slO ob1 f.b.length cap1)) := ⟨fun _ => Rds.allI (hJ3 _ mF), fr_len hf.tag _⟩
          have rP3 : RdsN J3 ⟨b1, 0, none⟩ 2 [.int .u32 p.1, .int .u8 p.2] := ⟨fun _ => Rds.allI (hJ3 _ (List.mem_append_right _ mP)), rfl⟩
          clear hJ3 mF
          refine CW.seq ?_
          refine CW.regionD (.cons 0 (.cons 2 (.cons 3 (.cons 4 (.cons 5 (.cons 6 (.cons 7 (.cons 9 (.cons 10 (.cons 11 (.cons 14 (.cons 15 (.cons 16 (.cons 18 (.fork [1, 12, 17] (fun k => (bif Nat.beq k 1 then (.fork [8, 12, 17] (fun k => (bif Nat.beq k 8 then (.fork [12, 17] (fun k => (bif Nat.beq k 12 then (.fork [13, 17] (fun k => (bif Nat.beq k 13 then (Sq.of [17, 19, 20, 21, 22, 23]) else (Sq.of [19, 13, 20, 21, 22, 23])))) else (Sq.of [19, 12, 13, 20, 21, 22, 23])))) else (bif Nat.beq k 12 then (.fork [8, 17] (fun k => (bif Nat.beq k 8 then (.fork [13, 17] (fun k => (bif Nat.beq k 13 then (Sq.of [17, 19, 20, 21, 22, 23]) else (Sq.of [19, 13, 20, 21, 22, 23])))) else (Sq.of [19, 8, 13, 20, 21, 22, 23])))) else (.cons 19 (.fork [8, 12] (fun k => (bif Nat.beq k 8 then (Sq.of [12, 13, 20, 21, 22, 23]) else (Sq.of [8, 13, 20, 21, 22, 23]))))))))) else (bif Nat.beq k 12 then (.fork [1, 17] (fun k => (bif Nat.beq k 1 then (.fork [8, 17] (fun k => (bif Nat.beq k 8 then (.fork [13, 17] (fun k => (bif Nat.beq k 13 then (Sq.of [17, 19, 20, 21, 22, 23]) else (Sq.of [19, 13, 20, 21, 22, 23])))) else (Sq.of [19, 8, 13, 20, 21, 22, 23])))) else (Sq.of [19, 1, 8, 13, 20, 21, 22, 23])))) else (.cons 19 (.fork [1, 12] (fun k => (bif Nat.beq k 1 then (.fork [8, 12] (fun k => (bif Nat.beq k 8 then (Sq.of [12, 13, 20, 21, 22, 23]) else (Sq.of [8, 13, 20, 21, 22, 23])))) else (Sq.of [1, 8, 13, 20, 21, 22, 23]))))))))))))))))))))))) [1, 8, 12, 13, 20, 23] [8, 13, 20, 23] [0, 2, 3, 4, 6, 7, 9, 10, 11, 14, 15, 16, 18, 19, 21, 22] mixed (by kernel_rfl) ?_
          refine RL.move rfl rfl rfl rfl ?_
          refine RL.move rfl rfl rfl rfl ?_
          refine RL.nilCheck rfl rfl rfl rfl ?_
          refine RL.fieldAddr fa_54_0 rfl rfl rfl rfl ?_
          refine RL.loadq Try.isAgg52 rfl rfl rfl rfl ?_
          refine RL.move rfl rfl rfl rfl ?_
          refine RL.slice (lo := 0) (hi := i) Try.runUnderlying52 Try.sizeOf65 rfl rfl rfl rfl rfl rfl (by omega) (by omega) ?_
          first | refine RL.loadMT Try.isAgg43 Try.sizeOf43 rfl rfl rfl rfl (by assumption) ?_ | refine RL.loadAT Try.isAgg43 Try.sizeOf43 rfl rfl rfl rfl (by first | assumption | (apply RdsI.rds; assumption)) (by first | rfl | assumption | (simp only [List.length_map]; assumption) | (simp only [List.length_map, List.length_replicate, hfl, hl0]; done) | (simp; done)) ?_
          first | refine RL.loadMT Try.isAgg34 Try.sizeOf34 rfl rfl rfl rfl (by assumption) ?_ | refine RL.loadAT Try.isAgg34 Try.sizeOf34 rfl rfl rfl rfl (by first | assumption | (apply RdsI.rds; assumption)) (by first | rfl | assumption | (simp only [List.length_map]; assumption) | (simp only [List.length_map, List.length_replicate, hfl, hl0]; done) | (simp; done)) ?_
          refine RL.buildS (itc (p, ⟨f, ob1, cap1⟩)) Try.zeroValue65 pl_65 rfl rfl rfl rfl (fill_it (x := ⟨f, ob1, cap1⟩) hfo rfl) ?_
          refine RL.move rfl rfl rfl rfl ?_
          refine RL.nilCheck rfl rfl rfl rfl ?_
          refine RL.fieldAddr fa_54_0 rfl rfl rfl rfl ?_
          refine RL.move rfl rfl rfl rfl ?_
          refine RL.fork ⟨?_, ?_, ?_, trivial⟩
          ·
            refine RL.buildOwn [] Try.runUnderlying52 Try.sizeOf65 Try.zeroValue65 rfl rfl (by decide) (by decide) rfl (by decide) rfl rfl rfl rfl rfl rfl ?_
            intro b5
            refine RL.fork ⟨?_, ?_, ?_, trivial⟩
            ·
              refine RL.appendA el_52 rfl rfl rfl rfl rfl rfl rfl (by first | exact ⟨(.take (Pick.none _)), rfl⟩ | exact ⟨(.leave (.take (Pick.none _))), rfl⟩ | exact ⟨(.leave (.leave (.take (Pick.none _)))), rfl⟩ | exact ⟨(.leave (.leave (.leave (.take (Pick.none _))))), rfl⟩ | exact ⟨(.leave (.leave (.leave (.leave (.take (Pick.none _)))))), rfl⟩ | exact ⟨(.leave (.leave (.leave (.leave (.leave (.take (Pick.none _))))))), rfl⟩ | exact ⟨(.leave (.leave (.leave (.leave (.leave (.leave (.take (Pick.none _)))))))), rfl⟩ | exact ⟨(.leave (.leave (.leave (.leave (.leave (.leave (.leave (.take (Pick.none _))))))))), rfl⟩ | exact ⟨(.leave (.leave (.leave (.leave (.leave (.leave (.leave (.leave (.take (Pick.none _)))))))))), rfl⟩ | exact ⟨(.leave (.leave (.leave (.leave (.leave (.leave (.leave (.leave (.leave (.take (Pick.none _))))))))))), rfl⟩) (hs1 (by repeat (first | exact List.Mem.head _ | apply List.Mem.tail))) (ones_its _) (by first | omega | (simp only [maxLen]; omega)) (by first | omega | (simp only [maxLen]; omega)) ?_
              intro ob2 cap2 ho2
              refine RL.fork ⟨?_, ?_, trivial⟩
              ·
                refine RL.buildSlice (itc (p, ⟨f, ob1, cap1⟩)) Try.runUnderlying52 Try.sizeOf65 Try.zeroValue65 rfl rfl (by decide) (by decide) rfl rfl rfl rfl rfl (fill_one23 (itc_len (x := (p, ⟨f, ob1, cap1⟩)) hfo) rfl) ?_
                intro b6
                refine RL.fork ⟨?_, ?_, trivial⟩
                ·
                  refine RL.appendA el_52 rfl rfl rfl rfl rfl rfl rfl (by first | exact ⟨(.take (Pick.none _)), rfl⟩ | exact ⟨(.leave (.take (Pick.none _))), rfl⟩ | exact ⟨(.leave (.leave (.take (Pick.none _)))), rfl⟩ | exact ⟨(.leave (.leave (.leave (.take (Pick.none _))))), rfl⟩ | exact ⟨(.leave (.leave (.leave (.leave (.take (Pick.none _)))))), rfl⟩ | exact ⟨(.leave (.leave (.leave (.leave (.leave (.take (Pick.none _))))))), rfl⟩ | exact ⟨(.leave (.leave (.leave (.leave (.leave (.leave (.take (Pick.none _)))))))), rfl⟩ | exact ⟨(.leave (.leave (.leave (.leave (.leave (.leave (.leave (.take (Pick.none _))))))))), rfl⟩ | exact ⟨(.leave (.leave (.leave (.leave (.leave (.leave (.leave (.leave (.take (Pick.none _)))))))))), rfl⟩ | exact ⟨(.leave (.leave (.leave (.leave (.leave (.leave (.leave (.leave (.leave (.take (Pick.none _))))))))))), rfl⟩) (Src.cel (by repeat (first | exact List.Mem.head _ | apply List.Mem.tail)) (itc_len (x := (p, ⟨f, ob1, cap1⟩)) hfo)) (ones_it _) (by first | omega | (simp only [maxLen]; omega)) (by first | omega | (simp only [maxLen]; omega)) ?_
                  intro ob3 cap3 ho3
                  refine RL.loadq Try.isAgg52 rfl rfl rfl rfl ?_
                  refine RL.slice (lo := i) (hi := R.length) Try.runUnderlying52 Try.sizeOf65 rfl rfl rfl rfl rfl rfl (by omega) (by omega) ?_
                  refine RL.appendA el_52 rfl rfl rfl rfl rfl rfl rfl (by first | exact ⟨(.take (Pick.none _)), rfl⟩ | exact ⟨(.leave (.take (Pick.none _))), rfl⟩ | exact ⟨(.leave (.leave (.take (Pick.none _)))), rfl⟩ | exact ⟨(.leave (.leave (.leave (.take (Pick.none _))))), rfl⟩ | exact ⟨(.leave (.leave (.leave (.leave (.take (Pick.none _)))))), rfl⟩ | exact ⟨(.leave (.leave (.leave (.leave (.leave (.take (Pick.none _))))))), rfl⟩ | exact ⟨(.leave (.leave (.leave (.leave (.leave (.leave (.take (Pick.none _)))))))), rfl⟩ | exact ⟨(.leave (.leave (.leave (.leave (.leave (.leave (.leave (.take (Pick.none _))))))))), rfl⟩ | exact ⟨(.leave (.leave (.leave (.leave (.leave (.leave (.leave (.leave (.take (Pick.none _)))))))))), rfl⟩ | exact ⟨(.leave (.leave (.leave (.leave (.leave (.leave (.leave (.leave (.leave (.take (Pick.none _))))))))))), rfl⟩) (hs2 (by repeat (first | exact List.Mem.head _ | apply List.Mem.tail))) (ones_its _) (by first | omega | (simp only [maxLen]; omega)) (by first | omega | (simp only [maxLen]; omega)) ?_
                  intro ob4 cap4 ho4
                  refine RL.nilCheck rfl rfl rfl rfl ?_
                  refine RL.fieldAddr fa_54_0 rfl rfl rfl rfl ?_
                  refine RL.store (vs := [_]) Try.sizeOf52 rfl rfl rfl rfl rfl rfl rfl rfl rfl (by repeat (first | exact Upd.here | apply Upd.there)) ?_
                  refine RL.nil ?_
                  refine NQ.seq ?_
                  refine CW.only .nil ?_
                  refine CW.seq ?_
                  refine CW.region (ef := []) (bk := []) ?_
                  refine RL.assign rfl rfl rfl rfl ?_
                  refine RL.nil ?_
                  refine NQ.seq ?_
                  refine CW.ret ?_
                  refine RQ.rea (fun _ h => h) (H' := [bodyO ⟨f, ob1, cap1⟩, rbufI y ob4 (0 + (i - 0) + 1 + (R.length - i)) cap4, own ob4 cap4 65 23 (0 + (i - 0) + 1 + (R.length - i)) ([] ++ (R.take i).flatMap itc ++ itc (p, ⟨f, ob1, cap1⟩) ++ (R.drop i).flatMap itc)]) (by repeat (first | exact Rea.nil | (apply Rea.cons; (solve | (repeat (first | exact Del.here | apply Del.there)))))) (RQ.post (res1 rfl rfl) (.give (.keep (.keep .nil))) ⟨0, insL R p ⟨f, ob1, cap1⟩, ob4, cap4, rfl, .yes _ rfl he, ins_fin hi hins y ob4 cap4⟩)
                ·
                  refine RL.loadq Try.isAgg52 rfl rfl rfl rfl ?_
                  refine RL.slice (lo := i) (hi := R.length) Try.runUnderlying52 Try.sizeOf65 rfl rfl rfl rfl rfl rfl (by omega) (by omega) ?_
                  refine RL.appendA el_52 rfl rfl rfl rfl rfl rfl rfl (by first | exact ⟨(.take (Pick.none _)), rfl⟩ | exact ⟨(.leave (.take (Pick.none _))), rfl⟩ | exact ⟨(.leave (.leave (.take (Pick.none _)))), rfl⟩ | exact ⟨(.leave (.leave (.leave (.take (Pick.none _))))), rfl⟩ | exact ⟨(.leave (.leave (.leave (.leave (.take (Pick.none _)))))), rfl⟩ | exact ⟨(.leave (.leave (.leave (.leave (.leave (.take (Pick.none _))))))), rfl⟩ | exact ⟨(.leave (.leave (.leave (.leave (.leave (.leave (.take (Pick.none _)))))))), rfl⟩ | exact ⟨(.leave (.leave (.leave (.leave (.leave (.leave (.leave (.take (Pick.none _))))))))), rfl⟩ | exact ⟨(.leave (.leave (.leave (.leave (.leave (.leave (.leave (.leave (.take (Pick.none _)))))))))), rfl⟩ | exact ⟨(.leave (.leave (.leave (.leave (.leave (.leave (.leave (.leave (.leave (.take (Pick.none _))))))))))), rfl⟩) (Src.cel (by repeat (first | exact List.Mem.head _ | apply List.Mem.tail)) (itc_len (x := (p, ⟨f, ob1, cap1⟩)) hfo)) (ones_it _) (by first | omega | (simp only [maxLen]; omega)) (by first | omega | (simp only [maxLen]; omega)) ?_
                  intro ob3 cap3 ho3
                  refine RL.appendA el_52 rfl rfl rfl rfl rfl rfl rfl (by first | exact ⟨(.take (Pick.none _)), rfl⟩ | exact ⟨(.leave (.take (Pick.none _))), rfl⟩ | exact ⟨(.leave (.leave (.take (Pick.none _)))), rfl⟩ | exact ⟨(.leave (.leave (.leave (.take (Pick.none _))))), rfl⟩ | exact ⟨(.leave (.leave (.leave (.leave (.take (Pick.none _)))))), rfl⟩ | exact ⟨(.leave (.leave (.leave (.leave (.leave (.take (Pick.none _))))))), rfl⟩ | exact ⟨(.leave (.leave (.leave (.leave (.leave (.leave (.take (Pick.none _)))))))), rfl⟩ | exact ⟨(.leave (.leave (.leave (.leave (.leave (.leave (.leave (.take (Pick.none _))))))))), rfl⟩ | exact ⟨(.leave (.leave (.leave (.leave (.leave (.leave (.leave (.leave (.take (Pick.none _)))))))))), rfl⟩ | exact ⟨(.leave (.leave (.leave (.leave (.leave (.leave (.leave (.leave (.leave (.take (Pick.none _))))))))))), rfl⟩) (hs2 (by repeat (first | exact List.Mem.head _ | apply List.Mem.tail))) (ones_its _) (by first | omega | (simp only [maxLen]; omega)) (by first | omega | (simp only [maxLen]; omega)) ?_
                  intro ob4 cap4 ho4
                  refine RL.nilCheck rfl rfl rfl rfl ?_
                  refine RL.fieldAddr fa_54_0 rfl rfl rfl rfl ?_
                  refine RL.store (vs := [_]) Try.sizeOf52 rfl rfl rfl rfl rfl rfl rfl rfl rfl (by repeat (first | exact Upd.here | apply Upd.there)) ?_
                  refine RL.nil ?_
                  refine NQ.seq ?_
                  refine CW.only .nil ?_
                  refine CW.seq ?_
                  refine CW.region (ef := []) (bk := []) ?_
                  refine RL.assign rfl rfl rfl rfl ?_
                  refine RL.nil ?_
                  refine NQ.seq ?_
                  refine CW.ret ?_
                  refine RQ.rea (fun _ h => h) (H' := [bodyO ⟨f, ob1, cap1⟩, rbufI y ob4 (0 + (i - 0) + 1 + (R.length - i)) cap4, own ob4 cap4 65 23 (0 + (i - 0) + 1 + (R.length - i)) ([] ++ (R.take i).flatMap itc ++ itc (p, ⟨f, ob1, cap1⟩) ++ (R.drop i).flatMap itc)]) (by repeat (first | exact Rea.nil | (apply Rea.cons; (solve | (repeat (first | exact Del.here | apply Del.there)))))) (RQ.post (res1 rfl rfl) (.give (.keep (.keep .nil))) ⟨0, insL R p ⟨f, ob1, cap1⟩, ob4, cap4, rfl, .yes _ rfl he, ins_fin hi hins y ob4 cap4⟩)
              ·
                refine RL.loadq Try.isAgg52 rfl rfl rfl rfl ?_
                refine RL.slice (lo := i) (hi := R.length) Try.runUnderlying52 Try.sizeOf65 rfl rfl rfl rfl rfl rfl (by omega) (by omega) ?_
                refine RL.buildSlice (itc (p, ⟨f, ob1, cap1⟩)) Try.runUnderlying52 Try.sizeOf65 Try.zeroValue65 rfl rfl (by decide) (by decide) rfl rfl rfl rfl rfl (fill_one23 (itc_len (x := (p, ⟨f, ob1, cap1⟩)) hfo) rfl) ?_
                intro b6
                refine RL.appendA el_52 rfl rfl rfl rfl rfl rfl rfl (by first | exact ⟨(.take (Pick.none _)), rfl⟩ | exact ⟨(.leave (.take (Pick.none _))), rfl⟩ | exact ⟨(.leave (.leave (.take (Pick.none _)))), rfl⟩ | exact ⟨(.leave (.leave (.leave (.take (Pick.none _))))), rfl⟩ | exact ⟨(.leave (.leave (.leave (.leave (.take (Pick.none _)))))), rfl⟩ | exact ⟨(.leave (.leave (.leave (.leave (.leave (.take (Pick.none _))))))), rfl⟩ | exact ⟨(.leave (.leave (.leave (.leave (.leave (.leave (.take (Pick.none _)))))))), rfl⟩ | exact ⟨(.leave (.leave (.leave (.leave (.leave (.leave (.leave (.take (Pick.none _))))))))), rfl⟩ | exact ⟨(.leave (.leave (.leave (.leave (.leave (.leave (.leave (.leave (.take (Pick.none _)))))))))), rfl⟩ | exact ⟨(.leave (.leave (.leave (.leave (.leave (.leave (.leave (.leave (.leave (.take (Pick.none _))))))))))), rfl⟩) (Src.cel (by repeat (first | exact List.Mem.head _ | apply List.Mem.tail)) (itc_len (x := (p, ⟨f, ob1, cap1⟩)) hfo)) (ones_it _) (by first | omega | (simp only [maxLen]; omega)) (by first | omega | (simp only [maxLen]; omega)) ?_
                intro ob3 cap3 ho3
                refine RL.appendA el_52 rfl rfl rfl rfl rfl rfl rfl (by first | exact ⟨(.take (Pick.none _)), rfl⟩ | exact ⟨(.leave (.take (Pick.none _))), rfl⟩ | exact ⟨(.leave (.leave (.take (Pick.none _)))), rfl⟩ | exact ⟨(.leave (.leave (.leave (.take (Pick.none _))))), rfl⟩ | exact ⟨(.leave (.leave (.leave (.leave (.take (Pick.none _)))))), rfl⟩ | exact ⟨(.leave (.leave (.leave (.leave (.leave (.take (Pick.none _))))))), rfl⟩ | exact ⟨(.leave (.leave (.leave (.leave (.leave (.leave (.take (Pick.none _)))))))), rfl⟩ | exact ⟨(.leave (.leave (.leave (.leave (.leave (.leave (.leave (.take (Pick.none _))))))))), rfl⟩ | exact ⟨(.leave (.leave (.leave (.leave (.leave (.leave (.leave (.leave (.take (Pick.none _)))))))))), rfl⟩ | exact ⟨(.leave (.leave (.leave (.leave (.leave (.leave (.leave (.leave (.leave (.take (Pick.none _))))))))))), rfl⟩) (hs2 (by repeat (first | exact List.Mem.head _ | apply List.Mem.tail))) (ones_its _) (by first | omega | (simp only [maxLen]; omega)) (by first | omega | (simp only [maxLen]; omega)) ?_
                intro ob4 cap4 ho4
                refine RL.nilCheck rfl rfl rfl rfl ?_
                refine RL.fieldAddr fa_54_0 rfl rfl rfl rfl ?_
                refine RL.store (vs := [_]) Try.sizeOf52 rfl rfl rfl rfl rfl rfl rfl rfl rfl (by repeat (first | exact Upd.here | apply Upd.there)) ?_
                refine RL.nil ?_
                refine NQ.seq ?_
                refine CW.only .nil ?_
                refine CW.seq ?_
                refine CW.region (ef := []) (bk := []) ?_
                refine RL.assign rfl rfl rfl rfl ?_
                refine RL.nil ?_
                refine NQ.seq ?_
                refine CW.ret ?_
                refine RQ.rea (fun _ h => h) (H' := [bodyO ⟨f, ob1, cap1⟩, rbufI y ob4 (0 + (i - 0) + 1 + (R.length - i)) cap4, own ob4 cap4 65 23 (0 + (i - 0) + 1 + (R.length - i)) ([] ++ (R.take i).flatMap itc ++ itc (p, ⟨f, ob1, cap1⟩) ++ (R.drop i).flatMap itc)]) (by repeat (first | exact Rea.nil | (apply Rea.cons; (solve | (repeat (first | exact Del.here | apply Del.there)))))) (RQ.post (res1 rfl rfl) (.give (.keep (.keep .nil))) ⟨0, insL R p ⟨f, ob1, cap1⟩, ob4, cap4, rfl, .yes _ rfl he, ins_fin hi hins y ob4 cap4⟩)
            ·
              refine RL.buildSlice (itc (p, ⟨f, ob1, cap1⟩)) Try.runUnderlying52 Try.sizeOf65 Try.zeroValue65 rfl rfl (by decide) (by decide) rfl rfl rfl rfl rfl (fill_one23 (itc_len (x := (p, ⟨f, ob1, cap1⟩)) hfo) rfl) ?_
              intro b6
              refine RL.fork ⟨?_, ?_, trivial⟩
              ·
                refine RL.appendA el_52 rfl rfl rfl rfl rfl rfl rfl (by first | exact ⟨(.take (Pick.none _)), rfl⟩ | exact ⟨(.leave (.take (Pick.none _))), rfl⟩ | exact ⟨(.leave (.leave (.take (Pick.none _)))), rfl⟩ | exact ⟨(.leave (.leave (.leave (.take (Pick.none _))))), rfl⟩ | exact ⟨(.leave (.leave (.leave (.leave (.take (Pick.none _)))))), rfl⟩ | exact ⟨(.leave (.leave (.leave (.leave (.leave (.take (Pick.none _))))))), rfl⟩ | exact ⟨(.leave (.leave (.leave (.leave (.leave (.leave (.take (Pick.none _)))))))), rfl⟩ | exact ⟨(.leave (.leave (.leave (.leave (.leave (.leave (.leave (.take (Pick.none _))))))))), rfl⟩ | exact ⟨(.leave (.leave (.leave (.leave (.leave (.leave (.leave (.leave (.take (Pick.none _)))))))))), rfl⟩ | exact ⟨(.leave (.leave (.leave (.leave (.leave (.leave (.leave (.leave (.leave (.take (Pick.none _))))))))))), rfl⟩) (hs1 (by repeat (first | exact List.Mem.head _ | apply List.Mem.tail))) (ones_its _) (by first | omega | (simp only [maxLen]; omega)) (by first | omega | (simp only [maxLen]; omega)) ?_
                intro ob2 cap2 ho2
                refine RL.fork ⟨?_, ?_, trivial⟩
                ·
                  refine RL.appendA el_52 rfl rfl rfl rfl rfl rfl rfl (by first | exact ⟨(.take (Pick.none _)), rfl⟩ | exact ⟨(.leave (.take (Pick.none _))), rfl⟩ | exact ⟨(.leave (.leave (.take (Pick.none _)))), rfl⟩ | exact ⟨(.leave (.leave (.leave (.take (Pick.none _))))), rfl⟩ | exact ⟨(.leave (.leave (.leave (.leave (.take (Pick.none _)))))), rfl⟩ | exact ⟨(.leave (.leave (.leave (.leave (.leave (.take (Pick.none _))))))), rfl⟩ | exact ⟨(.leave (.leave (.leave (.leave (.leave (.leave (.take (Pick.none _)))))))), rfl⟩ | exact ⟨(.leave (.leave (.leave (.leave (.leave (.leave (.leave (.take (Pick.none _))))))))), rfl⟩ | exact ⟨(.leave (.leave (.leave (.leave (.leave (.leave (.leave (.leave (.take (Pick.none _)))))))))), rfl⟩ | exact ⟨(.leave (.leave (.leave (.leave (.leave (.leave (.leave (.leave (.leave (.take (Pick.none _))))))))))), rfl⟩) (Src.cel (by repeat (first | exact List.Mem.head _ | apply List.Mem.tail)) (itc_len (x := (p, ⟨f, ob1, cap1⟩)) hfo)) (ones_it _) (by first | omega | (simp only [maxLen]; omega)) (by first | omega | (simp only [maxLen]; omega)) ?_
                  intro ob3 cap3 ho3
                  refine RL.loadq Try.isAgg52 rfl rfl rfl rfl ?_
                  refine RL.slice (lo := i) (hi := R.length) Try.runUnderlying52 Try.sizeOf65 rfl rfl rfl rfl rfl rfl (by omega) (by omega) ?_
                  refine RL.appendA el_52 rfl rfl rfl rfl rfl rfl rfl (by first | exact ⟨(.take (Pick.none _)), rfl⟩ | exact ⟨(.leave (.take (Pick.none _))), rfl⟩ | exact ⟨(.leave (.leave (.take (Pick.none _)))), rfl⟩ | exact ⟨(.leave (.leave (.leave (.take (Pick.none _))))), rfl⟩ | exact ⟨(.leave (.leave (.leave (.leave (.take (Pick.none _)))))), rfl⟩ | exact ⟨(.leave (.leave (.leave (.leave (.leave (.take (Pick.none _))))))), rfl⟩ | exact ⟨(.leave (.leave (.leave (.leave (.leave (.leave (.take (Pick.none _)))))))), rfl⟩ | exact ⟨(.leave (.leave (.leave (.leave (.leave (.leave (.leave (.take (Pick.none _))))))))), rfl⟩ | exact ⟨(.leave (.leave (.leave (.leave (.leave (.leave (.leave (.leave (.take (Pick.none _)))))))))), rfl⟩ | exact ⟨(.leave (.leave (.leave (.leave (.leave (.leave (.leave (.leave (.leave (.take (Pick.none _))))))))))), rfl⟩) (hs2 (by repeat (first | exact List.Mem.head _ | apply List.Mem.tail))) (ones_its _) (by first | omega | (simp only [maxLen]; omega)) (by first | omega | (simp only [maxLen]; omega)) ?_
                  intro ob4 cap4 ho4
                  refine RL.nilCheck rfl rfl rfl rfl ?_
                  refine RL.fieldAddr fa_54_0 rfl rfl rfl rfl ?_
                  refine RL.store (vs := [_]) Try.sizeOf52 rfl rfl rfl rfl rfl rfl rfl rfl rfl (by repeat (first | exact Upd.here | apply Upd.there)) ?_
                  refine RL.nil ?_
                  refine NQ.seq ?_
                  refine CW.only .nil ?_
                  refine CW.seq ?_
                  refine CW.region (ef := []) (bk := []) ?_
                  refine RL.assign rfl rfl rfl rfl ?_
                  refine RL.nil ?_
                  refine NQ.seq ?_
                  refine CW.ret ?_
                  refine RQ.rea (fun _ h => h) (H' := [bodyO ⟨f, ob1, cap1⟩, rbufI y ob4 (0 + (i - 0) + 1 + (R.length - i)) cap4, own ob4 cap4 65 23 (0 + (i - 0) + 1 + (R.length - i)) ([] ++ (R.take i).flatMap itc ++ itc (p, ⟨f, ob1, cap1⟩) ++ (R.drop i).flatMap itc)]) (by repeat (first | exact Rea.nil | (apply Rea.cons; (solve | (repeat (first | exact Del.here | apply Del.there)))))) (RQ.post (res1 rfl rfl) (.give (.keep (.keep .nil))) ⟨0, insL R p ⟨f, ob1, cap1⟩, ob4, cap4, rfl, .yes _ rfl he, ins_fin hi hins y ob4 cap4⟩)
                ·
                  refine RL.loadq Try.isAgg52 rfl rfl rfl rfl ?_
                  refine RL.slice (lo := i) (hi := R.length) Try.runUnderlying52 Try.sizeOf65 rfl rfl rfl rfl rfl rfl (by omega) (by omega) ?_
                  refine RL.appendA el_52 rfl rfl rfl rfl rfl rfl rfl (by first | exact ⟨(.take (Pick.none _)), rfl⟩ | exact ⟨(.leave (.take (Pick.none _))), rfl⟩ | exact ⟨(.leave (.leave (.take (Pick.none _)))), rfl⟩ | exact ⟨(.leave (.leave (.leave (.take (Pick.none _))))), rfl⟩ | exact ⟨(.leave (.leave (.leave (.leave (.take (Pick.none _)))))), rfl⟩ | exact ⟨(.leave (.leave (.leave (.leave (.leave (.take (Pick.none _))))))), rfl⟩ | exact ⟨(.leave (.leave (.leave (.leave (.leave (.leave (.take (Pick.none _)))))))), rfl⟩ | exact ⟨(.leave (.leave (.leave (.leave (.leave (.leave (.leave (.take (Pick.none _))))))))), rfl⟩ | exact ⟨(.leave (.leave (.leave (.leave (.leave (.leave (.leave (.leave (.take (Pick.none _)))))))))), rfl⟩ | exact ⟨(.leave (.leave (.leave (.leave (.leave (.leave (.leave (.leave (.leave (.take (Pick.none _))))))))))), rfl⟩) (Src.cel (by repeat (first | exact List.Mem.head _ | apply List.Mem.tail)) (itc_len (x := (p, ⟨f, ob1, cap1⟩)) hfo)) (ones_it _) (by first | omega | (simp only [maxLen]; omega)) (by first | omega | (simp only [maxLen]; omega)) ?_
                  intro ob3 cap3 ho3
                  refine RL.appendA el_52 rfl rfl rfl rfl rfl rfl rfl (by first | exact ⟨(.take (Pick.none _)), rfl⟩ | exact ⟨(.leave (.take (Pick.none _))), rfl⟩ | exact ⟨(.leave (.leave (.take (Pick.none _)))), rfl⟩ | exact ⟨(.leave (.leave (.leave (.take (Pick.none _))))), rfl⟩ | exact ⟨(.leave (.leave (.leave (.leave (.take (Pick.none _)))))), rfl⟩ | exact ⟨(.leave (.leave (.leave (.leave (.leave (.take (Pick.none _))))))), rfl⟩ | exact ⟨(.leave (.leave (.leave (.leave (.leave (.leave (.take (Pick.none _)))))))), rfl⟩ | exact ⟨(.leave (.leave (.leave (.leave (.leave (.leave (.leave (.take (Pick.none _))))))))), rfl⟩ | exact ⟨(.leave (.leave (.leave (.leave (.leave (.leave (.leave (.leave (.take (Pick.none _)))))))))), rfl⟩ | exact ⟨(.leave (.leave (.leave (.leave (.leave (.leave (.leave (.leave (.leave (.take (Pick.none _))))))))))), rfl⟩) (hs2 (by repeat (first | exact List.Mem.head _ | apply List.Mem.tail))) (ones_its _) (by first | omega | (simp only [maxLen]; omega)) (by first | omega | (simp only [maxLen]; omega)) ?_
                  intro ob4 cap4 ho4
                  refine RL.nilCheck rfl rfl rfl rfl ?_
                  refine RL.fieldAddr fa_54_0 rfl rfl rfl rfl ?_
                  refine RL.store (vs := [_]) Try.sizeOf52 rfl rfl rfl rfl rfl rfl rfl rfl rfl (by repeat (first | exact Upd.here | apply Upd.there)) ?_
                  refine RL.nil ?_
                  refine NQ.seq ?_
                  refine CW.only .nil ?_
                  refine CW.seq ?_
                  refine CW.region (ef := []) (bk := []) ?_
                  refine RL.assign rfl rfl rfl rfl ?_
                  refine RL.nil ?_
                  refine NQ.seq ?_
                  refine CW.ret ?_
                  refine RQ.rea (fun _ h => h) (H' := [bodyO ⟨f, ob1, cap1⟩, rbufI y ob4 (0 + (i - 0) + 1 + (R.length - i)) cap4, own ob4 cap4 65 23 (0 + (i - 0) + 1 + (R.length - i)) ([] ++ (R.take i).flatMap itc ++ itc (p, ⟨f, ob1, cap1⟩) ++ (R.drop i).flatMap itc)]) (by repeat (first | exact Rea.nil | (apply Rea.cons; (solve | (repeat (first | exact Del.here | apply Del.there)))))) (RQ.post (res1 rfl rfl) (.give (.keep (.keep .nil))) ⟨0, insL R p ⟨f, ob1, cap1⟩, ob4, cap4, rfl, .yes _ rfl he, ins_fin hi hins y ob4 cap4⟩)
              ·
                refine RL.loadq Try.isAgg52 rfl rfl rfl rfl ?_
                refine RL.slice (lo := i) (hi := R.length) Try.runUnderlying52 Try.sizeOf65 rfl rfl rfl rfl rfl rfl (by omega) (by omega) ?_
                refine RL.appendA el_52 rfl rfl rfl rfl rfl rfl rfl (by first | exact ⟨(.take (Pick.none _)), rfl⟩ | exact ⟨(.leave (.take (Pick.none _))), rfl⟩ | exact ⟨(.leave (.leave (.take (Pick.none _)))), rfl⟩ | exact ⟨(.leave (.leave (.leave (.take (Pick.none _))))), rfl⟩ | exact ⟨(.leave (.leave (.leave (.leave (.take (Pick.none _)))))), rfl⟩ | exact ⟨(.leave (.leave (.leave (.leave (.leave (.take (Pick.none _))))))), rfl⟩ | exact ⟨(.leave (.leave (.leave (.leave (.leave (.leave (.take (Pick.none _)))))))), rfl⟩ | exact ⟨(.leave (.leave (.leave (.leave (.leave (.leave (.leave (.take (Pick.none _))))))))), rfl⟩ | exact ⟨(.leave (.leave (.leave (.leave (.leave (.leave (.leave (.leave (.take (Pick.none _)))))))))), rfl⟩ | exact ⟨(.leave (.leave (.leave (.leave (.leave (.leave (.leave (.leave (.leave (.take (Pick.none _))))))))))), rfl⟩) (hs1 (by repeat (first | exact List.Mem.head _ | apply List.Mem.tail))) (ones_its _) (by first | omega | (simp only [maxLen]; omega)) (by first | omega | (simp only [maxLen]; omega)) ?_
                intro ob2 cap2 ho2
                refine RL.appendA el_52 rfl rfl rfl rfl rfl rfl rfl (by first | exact ⟨(.take (Pick.none _)), rfl⟩ | exact ⟨(.leave (.take (Pick.none _))), rfl⟩ | exact ⟨(.leave (.leave (.take (Pick.none _)))), rfl⟩ | exact ⟨(.leave (.leave (.leave (.take (Pick.none _))))), rfl⟩ | exact ⟨(.leave (.leave (.leave (.leave (.take (Pick.none _)))))), rfl⟩ | exact ⟨(.leave (.leave (.leave (.leave (.leave (.take (Pick.none _))))))), rfl⟩ | exact ⟨(.leave (.leave (.leave (.leave (.leave (.leave (.take (Pick.none _)))))))), rfl⟩ | exact ⟨(.leave (.leave (.leave (.leave (.leave (.leave (.leave (.take (Pick.none _))))))))), rfl⟩ | exact ⟨(.leave (.leave (.leave (.leave (.leave (.leave (.leave (.leave (.take (Pick.none _)))))))))), rfl⟩ | exact ⟨(.leave (.leave (.leave (.leave (.leave (.leave (.leave (.leave (.leave (.take (Pick.none _))))))))))), rfl⟩) (Src.cel (by repeat (first | exact List.Mem.head _ | apply List.Mem.tail)) (itc_len (x := (p, ⟨f, ob1, cap1⟩)) hfo)) (ones_it _) (by first | omega | (simp only [maxLen]; omega)) (by first | omega | (simp only [maxLen]; omega)) ?_
                intro ob3 cap3 ho3
                refine RL.appendA el_52 rfl rfl rfl rfl rfl rfl rfl (by first | exact ⟨(.take (Pick.none _)), rfl⟩ | exact ⟨(.leave (.take (Pick.none _))), rfl⟩ | exact ⟨(.leave (.leave (.take (Pick.none _)))), rfl⟩ | exact ⟨(.leave (.leave (.leave (.take (Pick.none _))))), rfl⟩ | exact ⟨(.leave (.leave (.leave (.leave (.take (Pick.none _)))))), rfl⟩ | exact ⟨(.leave (.leave (.leave (.leave (.leave (.take (Pick.none _))))))), rfl⟩ | exact ⟨(.leave (.leave (.leave (.leave (.leave (.leave (.take (Pick.none _)))))))), rfl⟩ | exact ⟨(.leave (.leave (.leave (.leave (.leave (.leave (.leave (.take (Pick.none _))))))))), rfl⟩ | exact ⟨(.leave (.leave (.leave (.leave (.leave (.leave (.leave (.leave (.take (Pick.none _)))))))))), rfl⟩ | exact ⟨(.leave (.leave (.leave (.leave (.leave (.leave (.leave (.leave (.leave (.take (Pick.none _))))))))))), rfl⟩) (hs2 (by repeat (first | exact List.Mem.head _ | apply List.Mem.tail))) (ones_its _) (by first | omega | (simp only [maxLen]; omega)) (by first | omega | (simp only [maxLen]; omega)) ?_
                intro ob4 cap4 ho4
                refine RL.nilCheck rfl rfl rfl rfl ?_
                refine RL.fieldAddr fa_54_0 rfl rfl rfl rfl ?_
                refine RL.store (vs := [_]) Try.sizeOf52 rfl rfl rfl rfl rfl rfl rfl rfl rfl (by repeat (first | exact Upd.here | apply Upd.there)) ?_
                refine RL.nil ?_
                refine NQ.seq ?_
                refine CW.only .nil ?_
                refine CW.seq ?_
                refine CW.region (ef := []) (bk := []) ?_
                refine RL.assign rfl rfl rfl rfl ?_
                refine RL.nil ?_
                refine NQ.seq ?_
                refine CW.ret ?_
                refine RQ.rea (fun _ h => h) (H' := [bodyO ⟨f, ob1, cap1⟩, rbufI y ob4 (0 + (i - 0) + 1 + (R.length - i)) cap4, own ob4 cap4 65 23 (0 + (i - 0) + 1 + (R.length - i)) ([] ++ (R.take i).flatMap itc ++ itc (p, ⟨f, ob1, cap1⟩) ++ (R.drop i).flatMap itc)]) (by repeat (first | exact Rea.nil | (apply Rea.cons; (solve | (repeat (first | exact Del.here | apply Del.there)))))) (RQ.post (res1 rfl rfl) (.give (.keep (.keep .nil))) ⟨0, insL R p ⟨f, ob1, cap1⟩, ob4, cap4, rfl, .yes _ rfl he, ins_fin hi hins y ob4 cap4⟩)
            ·
              refine RL.loadq Try.isAgg52 rfl rfl rfl rfl ?_
              refine RL.slice (lo := i) (hi := R.length) Try.runUnderlying52 Try.sizeOf65 rfl rfl rfl rfl rfl rfl (by omega) (by omega) ?_
              refine RL.fork ⟨?_, ?_, trivial⟩
              ·
                refine RL.appendA el_52 rfl rfl rfl rfl rfl rfl rfl (by first | exact ⟨(.take (Pick.none _)), rfl⟩ | exact ⟨(.leave (.take (Pick.none _))), rfl⟩ | exact ⟨(.leave (.leave (.take (Pick.none _)))), rfl⟩ | exact ⟨(.leave (.leave (.leave (.take (Pick.none _))))), rfl⟩ | exact ⟨(.leave (.leave (.leave (.leave (.take (Pick.none _)))))), rfl⟩ | exact ⟨(.leave (.leave (.leave (.leave (.leave (.take (Pick.none _))))))), rfl⟩ | exact ⟨(.leave (.leave (.leave (.leave (.leave (.leave (.take (Pick.none _)))))))), rfl⟩ | exact ⟨(.leave (.leave (.leave (.leave (.leave (.leave (.leave (.take (Pick.none _))))))))), rfl⟩ | exact ⟨(.leave (.leave (.leave (.leave (.leave (.leave (.leave (.leave (.take (Pick.none _)))))))))), rfl⟩ | exact ⟨(.leave (.leave (.leave (.leave (.leave (.leave (.leave (.leave (.leave (.take (Pick.none _))))))))))), rfl⟩) (hs1 (by repeat (first | exact List.Mem.head _ | apply List.Mem.tail))) (ones_its _) (by first | omega | (simp only [maxLen]; omega)) (by first | omega | (simp only [maxLen]; omega)) ?_
                intro ob2 cap2 ho2
                refine RL.buildSlice (itc (p, ⟨f, ob1, cap1⟩)) Try.runUnderlying52 Try.sizeOf65 Try.zeroValue65 rfl rfl (by decide) (by decide) rfl rfl rfl rfl rfl (fill_one23 (itc_len (x := (p, ⟨f, ob1, cap1⟩)) hfo) rfl) ?_
                intro b6
                refine RL.appendA el_52 rfl rfl rfl rfl rfl rfl rfl (by first | exact ⟨(.take (Pick.none _)), rfl⟩ | exact ⟨(.leave (.take (Pick.none _))), rfl⟩ | exact ⟨(.leave (.leave (.take (Pick.none _)))), rfl⟩ | exact ⟨(.leave (.leave (.leave (.take (Pick.none _))))), rfl⟩ | exact ⟨(.leave (.leave (.leave (.leave (.take (Pick.none _)))))), rfl⟩ | exact ⟨(.leave (.leave (.leave (.leave (.leave (.take (Pick.none _))))))), rfl⟩ | exact ⟨(.leave (.leave (.leave (.leave (.leave (.leave (.take (Pick.none _)))))))), rfl⟩ | exact ⟨(.leave (.leave (.leave (.leave (.leave (.leave (.leave (.take (Pick.none _))))))))), rfl⟩ | exact ⟨(.leave (.leave (.leave (.leave (.leave (.leave (.leave (.leave (.take (Pick.none _)))))))))), rfl⟩ | exact ⟨(.leave (.leave (.leave (.leave (.leave (.leave (.leave (.leave (.leave (.take (Pick.none _))))))))))), rfl⟩) (Src.cel (by repeat (first | exact List.Mem.head _ | apply List.Mem.tail)) (itc_len (x := (p, ⟨f, ob1, cap1⟩)) hfo)) (ones_it _) (by first | omega | (simp only [maxLen]; omega)) (by first | omega | (simp only [maxLen]; omega)) ?_
                intro ob3 cap3 ho3
                refine RL.appendA el_52 rfl rfl rfl rfl rfl rfl rfl (by first | exact ⟨(.take (Pick.none _)), rfl⟩ | exact ⟨(.leave (.take (Pick.none _))), rfl⟩ | exact ⟨(.leave (.leave (.take (Pick.none _)))), rfl⟩ | exact ⟨(.leave (.leave (.leave (.take (Pick.none _))))), rfl⟩ | exact ⟨(.leave (.leave (.leave (.leave (.take (Pick.none _)))))), rfl⟩ | exact ⟨(.leave (.leave (.leave (.leave (.leave (.take (Pick.none _))))))), rfl⟩ | exact ⟨(.leave (.leave (.leave (.leave (.leave (.leave (.take (Pick.none _)))))))), rfl⟩ | exact ⟨(.leave (.leave (.leave (.leave (.leave (.leave (.leave (.take (Pick.none _))))))))), rfl⟩ | exact ⟨(.leave (.leave (.leave (.leave (.leave (.leave (.leave (.leave (.take (Pick.none _)))))))))), rfl⟩ | exact ⟨(.leave (.leave (.leave (.leave (.leave (.leave (.leave (.leave (.leave (.take (Pick.none _))))))))))), rfl⟩) (hs2 (by repeat (first | exact List.Mem.head _ | apply List.Mem.tail))) (ones_its _) (by first | omega | (simp only [maxLen]; omega)) (by first | omega | (simp only [maxLen]; omega)) ?_
                intro ob4 cap4 ho4
                refine RL.nilCheck rfl rfl rfl rfl ?_
                refine RL.fieldAddr fa_54_0 rfl rfl rfl rfl ?_
                refine RL.store (vs := [_]) Try.sizeOf52 rfl rfl rfl rfl rfl rfl rfl rfl rfl (by repeat (first | exact Upd.here | apply Upd.there)) ?_
                refine RL.nil ?_
                refine NQ.seq ?_
                refine CW.only .nil ?_
                refine CW.seq ?_
                refine CW.region (ef := []) (bk := []) ?_
                refine RL.assign rfl rfl rfl rfl ?_
                refine RL.nil ?_
                refine NQ.seq ?_
                refine CW.ret ?_
                refine RQ.rea (fun _ h => h) (H' := [bodyO ⟨f, ob1, cap1⟩, rbufI y ob4 (0 + (i - 0) + 1 + (R.length - i)) cap4, own ob4 cap4 65 23 (0 + (i - 0) + 1 + (R.length - i)) ([] ++ (R.take i).flatMap itc ++ itc (p, ⟨f, ob1, cap1⟩) ++ (R.drop i).flatMap itc)]) (by repeat (first | exact Rea.nil | (apply Rea.cons; (solve | (repeat (first | exact Del.here | apply Del.there)))))) (RQ.post (res1 rfl rfl) (.give (.keep (.keep .nil))) ⟨0, insL R p ⟨f, ob1, cap1⟩, ob4, cap4, rfl, .yes _ rfl he, ins_fin hi hins y ob4 cap4⟩)
              ·
                refine RL.buildSlice (itc (p, ⟨f, ob1, cap1⟩)) Try.runUnderlying52 Try.sizeOf65 Try.zeroValue65 rfl rfl (by decide) (by decide) rfl rfl rfl rfl rfl (fill_one23 (itc_len (x := (p, ⟨f, ob1, cap1⟩)) hfo) rfl) ?_
                intro b6
                refine RL.appendA el_52 rfl rfl rfl rfl rfl rfl rfl (by first | exact ⟨(.take (Pick.none _)), rfl⟩ | exact ⟨(.leave (.take (Pick.none _))), rfl⟩ | exact ⟨(.leave (.leave (.take (Pick.none _)))), rfl⟩ | exact ⟨(.leave (.leave (.leave (.take (Pick.none _))))), rfl⟩ | exact ⟨(.leave (.leave (.leave (.leave (.take (Pick.none _)))))), rfl⟩ | exact ⟨(.leave (.leave (.leave (.leave (.leave (.take (Pick.none _))))))), rfl⟩ | exact ⟨(.leave (.leave (.leave (.leave (.leave (.leave (.take (Pick.none _)))))))), rfl⟩ | exact ⟨(.leave (.leave (.leave (.leave (.leave (.leave (.leave (.take (Pick.none _))))))))), rfl⟩ | exact ⟨(.leave (.leave (.leave (.leave (.leave (.leave (.leave (.leave (.take (Pick.none _)))))))))), rfl⟩ | exact ⟨(.leave (.leave (.leave (.leave (.leave (.leave (.leave (.leave (.leave (.take (Pick.none _))))))))))), rfl⟩) (hs1 (by repeat (first | exact List.Mem.head _ | apply List.Mem.tail))) (ones_its _) (by first | omega | (simp only [maxLen]; omega)) (by first | omega | (simp only [maxLen]; omega)) ?_
                intro ob2 cap2 ho2
                refine RL.appendA el_52 rfl rfl rfl rfl rfl rfl rfl (by first | exact ⟨(.take (Pick.none _)), rfl⟩ | exact ⟨(.leave (.take (Pick.none _))), rfl⟩ | exact ⟨(.leave (.leave (.take (Pick.none _)))), rfl⟩ | exact ⟨(.leave (.leave (.leave (.take (Pick.none _))))), rfl⟩ | exact ⟨(.leave (.leave (.leave (.leave (.take (Pick.none _)))))), rfl⟩ | exact ⟨(.leave (.leave (.leave (.leave (.leave (.take (Pick.none _))))))), rfl⟩ | exact ⟨(.leave (.leave (.leave (.leave (.leave (.leave (.take (Pick.none _)))))))), rfl⟩ | exact ⟨(.leave (.leave (.leave (.leave (.leave (.leave (.leave (.take (Pick.none _))))))))), rfl⟩ | exact ⟨(.leave (.leave (.leave (.leave (.leave (.leave (.leave (.leave (.take (Pick.none _)))))))))), rfl⟩ | exact ⟨(.leave (.leave (.leave (.leave (.leave (.leave (.leave (.leave (.leave (.take (Pick.none _))))))))))), rfl⟩) (Src.cel (by repeat (first | exact List.Mem.head _ | apply List.Mem.tail)) (itc_len (x := (p, ⟨f, ob1, cap1⟩)) hfo)) (ones_it _) (by first | omega | (simp only [maxLen]; omega)) (by first | omega | (simp only [maxLen]; omega)) ?_
                intro ob3 cap3 ho3
                refine RL.appendA el_52 rfl rfl rfl rfl rfl rfl rfl (by first | exact ⟨(.take (Pick.none _)), rfl⟩ | exact ⟨(.leave (.take (Pick.none _))), rfl⟩ | exact ⟨(.leave (.leave (.take (Pick.none _)))), rfl⟩ | exact ⟨(.leave (.leave (.leave (.take (Pick.none _))))), rfl⟩ | exact ⟨(.leave (.leave (.leave (.leave (.take (Pick.none _)))))), rfl⟩ | exact ⟨(.leave (.leave (.leave (.leave (.leave (.take (Pick.none _))))))), rfl⟩ | exact ⟨(.leave (.leave (.leave (.leave (.leave (.leave (.take (Pick.none _)))))))), rfl⟩ | exact ⟨(.leave (.leave (.leave (.leave (.leave (.leave (.leave (.take (Pick.none _))))))))), rfl⟩ | exact ⟨(.leave (.leave (.leave (.leave (.leave (.leave (.leave (.leave (.take (Pick.none _)))))))))), rfl⟩ | exact ⟨(.leave (.leave (.leave (.leave (.leave (.leave (.leave (.leave (.leave (.take (Pick.none _))))))))))), rfl⟩) (hs2 (by repeat (first | exact List.Mem.head _ | apply List.Mem.tail))) (ones_its _) (by first | omega | (simp only [maxLen]; omega)) (by first | omega | (simp only [maxLen]; omega)) ?_
                intro ob4 cap4 ho4
                refine RL.nilCheck rfl rfl rfl rfl ?_
                refine RL.fieldAddr fa_54_0 rfl rfl rfl rfl ?_
                refine RL.store (vs := [_]) Try.sizeOf52 rfl rfl rfl rfl rfl rfl rfl rfl rfl (by repeat (first | exact Upd.here | apply Upd.there)) ?_
                refine RL.nil ?_
                refine NQ.seq ?_
                refine CW.only .nil ?_
                refine CW.seq ?_
                refine CW.region (ef := []) (bk := []) ?_
                refine RL.assign rfl rfl rfl rfl ?_
                refine RL.nil ?_
                refine NQ.seq ?_
                refine CW.ret ?_
                refine RQ.rea (fun _ h => h) (H' := [bodyO ⟨f, ob1, cap1⟩, rbufI y ob4 (0 + (i - 0) + 1 + (R.length - i)) cap4, own ob4 cap4 65 23 (0 + (i - 0) + 1 + (R.length - i)) ([] ++ (R.take i).flatMap itc ++ itc (p, ⟨f, ob1, cap1⟩) ++ (R.drop i).flatMap itc)]) (by repeat (first | exact Rea.nil | (apply Rea.cons; (solve | (repeat (first | exact Del.here | apply Del.there)))))) (RQ.post (res1 rfl rfl) (.give (.keep (.keep .nil))) ⟨0, insL R p ⟨f, ob1, cap1⟩, ob4, cap4, rfl, .yes _ rfl he, ins_fin hi hins y ob4 cap4⟩)
          ·
            refine RL.buildSlice (itc (p, ⟨f, ob1, cap1⟩)) Try.runUnderlying52 Try.sizeOf65 Try.zeroValue65 rfl rfl (by decide) (by decide) rfl rfl rfl rfl rfl (fill_one23 (itc_len (x := (p, ⟨f, ob1, cap1⟩)) hfo) rfl) ?_
            intro b6
            refine RL.fork ⟨?_, ?_, trivial⟩
            ·
              refine RL.buildOwn [] Try.runUnderlying52 Try.sizeOf65 Try.zeroValue65 rfl rfl (by decide) (by decide) rfl (by decide) rfl rfl rfl rfl rfl rfl ?_
              intro b5
              refine RL.fork ⟨?_, ?_, trivial⟩
              ·
                refine RL.appendA el_52 rfl rfl rfl rfl rfl rfl rfl (by first | exact ⟨(.take (Pick.none _)), rfl⟩ | exact ⟨(.leave (.take (Pick.none _))), rfl⟩ | exact ⟨(.leave (.leave (.take (Pick.none _)))), rfl⟩ | exact ⟨(.leave (.leave (.leave (.take (Pick.none _))))), rfl⟩ | exact ⟨(.leave (.leave (.leave (.leave (.take (Pick.none _)))))), rfl⟩ | exact ⟨(.leave (.leave (.leave (.leave (.leave (.take (Pick.none _))))))), rfl⟩ | exact ⟨(.leave (.leave (.leave (.leave (.leave (.leave (.take (Pick.none _)))))))), rfl⟩ | exact ⟨(.leave (.leave (.leave (.leave (.leave (.leave (.leave (.take (Pick.none _))))))))), rfl⟩ | exact ⟨(.leave (.leave (.leave (.leave (.leave (.leave (.leave (.leave (.take (Pick.none _)))))))))), rfl⟩ | exact ⟨(.leave (.leave (.leave (.leave (.leave (.leave (.leave (.leave (.leave (.take (Pick.none _))))))))))), rfl⟩) (hs1 (by repeat (first | exact List.Mem.head _ | apply List.Mem.tail))) (ones_its _) (by first | omega | (simp only [maxLen]; omega)) (by first | omega | (simp only [maxLen]; omega)) ?_
                intro ob2 cap2 ho2
                refine RL.fork ⟨?_, ?_, trivial⟩
                ·
                  refine RL.appendA el_52 rfl rfl rfl rfl rfl rfl rfl (by first | exact ⟨(.take (Pick.none _)), rfl⟩ | exact ⟨(.leave (.take (Pick.none _))), rfl⟩ | exact ⟨(.leave (.leave (.take (Pick.none _)))), rfl⟩ | exact ⟨(.leave (.leave (.leave (.take (Pick.none _))))), rfl⟩ | exact ⟨(.leave (.leave (.leave (.leave (.take (Pick.none _)))))), rfl⟩ | exact ⟨(.leave (.leave (.leave (.leave (.leave (.take (Pick.none _))))))), rfl⟩ | exact ⟨(.leave (.leave (.leave (.leave (.leave (.leave (.take (Pick.none _)))))))), rfl⟩ | exact ⟨(.leave (.leave (.leave (.leave (.leave (.leave (.leave (.take (Pick.none _))))))))), rfl⟩ | exact ⟨(.leave (.leave (.leave (.leave (.leave (.leave (.leave (.leave (.take (Pick.none _)))))))))), rfl⟩ | exact ⟨(.leave (.leave (.leave (.leave (.leave (.leave (.leave (.leave (.leave (.take (Pick.none _))))))))))), rfl⟩) (Src.cel (by repeat (first | exact List.Mem.head _ | apply List.Mem.tail)) (itc_len (x := (p, ⟨f, ob1, cap1⟩)) hfo)) (ones_it _) (by first | omega | (simp only [maxLen]; omega)) (by first | omega | (simp only [maxLen]; omega)) ?_
                  intro ob3 cap3 ho3
                  refine RL.loadq Try.isAgg52 rfl rfl rfl rfl ?_
                  refine RL.slice (lo := i) (hi := R.length) Try.runUnderlying52 Try.sizeOf65 rfl rfl rfl rfl rfl rfl (by omega) (by omega) ?_
                  refine RL.appendA el_52 rfl rfl rfl rfl rfl rfl rfl (by first | exact ⟨(.take (Pick.none _)), rfl⟩ | exact ⟨(.leave (.take (Pick.none _))), rfl⟩ | exact ⟨(.leave (.leave (.take (Pick.none _)))), rfl⟩ | exact ⟨(.leave (.leave (.leave (.take (Pick.none _))))), rfl⟩ | exact ⟨(.leave (.leave (.leave (.leave (.take (Pick.none _)))))), rfl⟩ | exact ⟨(.leave (.leave (.leave (.leave (.leave (.take (Pick.none _))))))), rfl⟩ | exact ⟨(.leave (.leave (.leave (.leave (.leave (.leave (.take (Pick.none _)))))))), rfl⟩ | exact ⟨(.leave (.leave (.leave (.leave (.leave (.leave (.leave (.take (Pick.none _))))))))), rfl⟩ | exact ⟨(.leave (.leave (.leave (.leave (.leave (.leave (.leave (.leave (.take (Pick.none _)))))))))), rfl⟩ | exact ⟨(.leave (.leave (.leave (.leave (.leave (.leave (.leave (.leave (.leave (.take (Pick.none _))))))))))), rfl⟩) (hs2 (by repeat (first | exact List.Mem.head _ | apply List.Mem.tail))) (ones_its _) (by first | omega | (simp only [maxLen]; omega)) (by first | omega | (simp only [maxLen]; omega)) ?_
                  intro ob4 cap4 ho4
                  refine RL.nilCheck rfl rfl rfl rfl ?_
                  refine RL.fieldAddr fa_54_0 rfl rfl rfl rfl ?_
                  refine RL.store (vs := [_]) Try.sizeOf52 rfl rfl rfl rfl rfl rfl rfl rfl rfl (by repeat (first | exact Upd.here | apply Upd.there)) ?_
                  refine RL.nil ?_
                  refine NQ.seq ?_
                  refine CW.only .nil ?_
                  refine CW.seq ?_
                  refine CW.region (ef := []) (bk := []) ?_
                  refine RL.assign rfl rfl rfl rfl ?_
                  refine RL.nil ?_
                  refine NQ.seq ?_
                  refine CW.ret ?_
                  refine RQ.rea (fun _ h => h) (H' := [bodyO ⟨f, ob1, cap1⟩, rbufI y ob4 (0 + (i - 0) + 1 + (R.length - i)) cap4, own ob4 cap4 65 23 (0 + (i - 0) + 1 + (R.length - i)) ([] ++ (R.take i).flatMap itc ++ itc (p, ⟨f, ob1, cap1⟩) ++ (R.drop i).flatMap itc)]) (by repeat (first | exact Rea.nil | (apply Rea.cons; (solve | (repeat (first | exact Del.here | apply Del.there)))))) (RQ.post (res1 rfl rfl) (.give (.keep (.keep .nil))) ⟨0, insL R p ⟨f, ob1, cap1⟩, ob4, cap4, rfl, .yes _ rfl he, ins_fin hi hins y ob4 cap4⟩)
                ·
                  refine RL.loadq Try.isAgg52 rfl rfl rfl rfl ?_
                  refine RL.slice (lo := i) (hi := R.length) Try.runUnderlying52 Try.sizeOf65 rfl rfl rfl rfl rfl rfl (by omega) (by omega) ?_
                  refine RL.appendA el_52 rfl rfl rfl rfl rfl rfl rfl (by first | exact ⟨(.take (Pick.none _)), rfl⟩ | exact ⟨(.leave (.take (Pick.none _))), rfl⟩ | exact ⟨(.leave (.leave (.take (Pick.none _)))), rfl⟩ | exact ⟨(.leave (.leave (.leave (.take (Pick.none _))))), rfl⟩ | exact ⟨(.leave (.leave (.leave (.leave (.take (Pick.none _)))))), rfl⟩ | exact ⟨(.leave (.leave (.leave (.leave (.leave (.take (Pick.none _))))))), rfl⟩ | exact ⟨(.leave (.leave (.leave (.leave (.leave (.leave (.take (Pick.none _)))))))), rfl⟩ | exact ⟨(.leave (.leave (.leave (.leave (.leave (.leave (.leave (.take (Pick.none _))))))))), rfl⟩ | exact ⟨(.leave (.leave (.leave (.leave (.leave (.leave (.leave (.leave (.take (Pick.none _)))))))))), rfl⟩ | exact ⟨(.leave (.leave (.leave (.leave (.leave (.leave (.leave (.leave (.leave (.take (Pick.none _))))))))))), rfl⟩) (Src.cel (by repeat (first | exact List.Mem.head _ | apply List.Mem.tail)) (itc_len (x := (p, ⟨f, ob1, cap1⟩)) hfo)) (ones_it _) (by first | omega | (simp only [maxLen]; omega)) (by first | omega | (simp only [maxLen]; omega)) ?_
                  intro ob3 cap3 ho3
                  refine RL.appendA el_52 rfl rfl rfl rfl rfl rfl rfl (by first | exact ⟨(.take (Pick.none _)), rfl⟩ | exact ⟨(.leave (.take (Pick.none _))), rfl⟩ | exact ⟨(.leave (.leave (.take (Pick.none _)))), rfl⟩ | exact ⟨(.leave (.leave (.leave (.take (Pick.none _))))), rfl⟩ | exact ⟨(.leave (.leave (.leave (.leave (.take (Pick.none _)))))), rfl⟩ | exact ⟨(.leave (.leave (.leave (.leave (.leave (.take (Pick.none _))))))), rfl⟩ | exact ⟨(.leave (.leave (.leave (.leave (.leave (.leave (.take (Pick.none _)))))))), rfl⟩ | exact ⟨(.leave (.leave (.leave (.leave (.leave (.leave (.leave (.take (Pick.none _))))))))), rfl⟩ | exact ⟨(.leave (.leave (.leave (.leave (.leave (.leave (.leave (.leave (.take (Pick.none _)))))))))), rfl⟩ | exact ⟨(.leave (.leave (.leave (.leave (.leave (.leave (.leave (.leave (.leave (.take (Pick.none _))))))))))), rfl⟩) (hs2 (by repeat (first | exact List.Mem.head _ | apply List.Mem.tail))) (ones_its _) (by first | omega | (simp only [maxLen]; omega)) (by first | omega | (simp only [maxLen]; omega)) ?_
                  intro ob4 cap4 ho4
                  refine RL.nilCheck rfl rfl rfl rfl ?_
                  refine RL.fieldAddr fa_54_0 rfl rfl rfl rfl ?_
                  refine RL.store (vs := [_]) Try.sizeOf52 rfl rfl rfl rfl rfl rfl rfl rfl rfl (by repeat (first | exact Upd.here | apply Upd.there)) ?_
                  refine RL.nil ?_
                  refine NQ.seq ?_
                  refine CW.only .nil ?_
                  refine CW.seq ?_
                  refine CW.region (ef := []) (bk := []) ?_
                  refine RL.assign rfl rfl rfl rfl ?_
                  refine RL.nil ?_
                  refine NQ.seq ?_
                  refine CW.ret ?_
                  refine RQ.rea (fun _ h => h) (H' := [bodyO ⟨f, ob1, cap1⟩, rbufI y ob4 (0 + (i - 0) + 1 + (R.length - i)) cap4, own ob4 cap4 65 23 (0 + (i - 0) + 1 + (R.length - i)) ([] ++ (R.take i).flatMap itc ++ itc (p, ⟨f, ob1, cap1⟩) ++ (R.drop i).flatMap itc)]) (by repeat (first | exact Rea.nil | (apply Rea.cons; (solve | (repeat (first | exact Del.here | apply Del.there)))))) (RQ.post (res1 rfl rfl) (.give (.keep (.keep .nil))) ⟨0, insL R p ⟨f, ob1, cap1⟩, ob4, cap4, rfl, .yes _ rfl he, ins_fin hi hins y ob4 cap4⟩)
              ·
                refine RL.loadq Try.isAgg52 rfl rfl rfl rfl ?_
                refine RL.slice (lo := i) (hi := R.length) Try.runUnderlying52 Try.sizeOf65 rfl rfl rfl rfl rfl rfl (by omega) (by omega) ?_
                refine RL.appendA el_52 rfl rfl rfl rfl rfl rfl rfl (by first | exact ⟨(.take (Pick.none _)), rfl⟩ | exact ⟨(.leave (.take (Pick.none _))), rfl⟩ | exact ⟨(.leave (.leave (.take (Pick.none _)))), rfl⟩ | exact ⟨(.leave (.leave (.leave (.take (Pick.none _))))), rfl⟩ | exact ⟨(.leave (.leave (.leave (.leave (.take (Pick.none _)))))), rfl⟩ | exact ⟨(.leave (.leave (.leave (.leave (.leave (.take (Pick.none _))))))), rfl⟩ | exact ⟨(.leave (.leave (.leave (.leave (.leave (.leave (.take (Pick.none _)))))))), rfl⟩ | exact ⟨(.leave (.leave (.leave (.leave (.leave (.leave (.leave (.take (Pick.none _))))))))), rfl⟩ | exact ⟨(.leave (.leave (.leave (.leave (.leave (.leave (.leave (.leave (.take (Pick.none _)))))))))), rfl⟩ | exact ⟨(.leave (.leave (.leave (.leave (.leave (.leave (.leave (.leave (.leave (.take (Pick.none _))))))))))), rfl⟩) (hs1 (by repeat (first | exact List.Mem.head _ | apply List.Mem.tail))) (ones_its _) (by first | omega | (simp only [maxLen]; omega)) (by first | omega | (simp only [maxLen]; omega)) ?_
                intro ob2 cap2 ho2
                refine RL.appendA el_52 rfl rfl rfl rfl rfl rfl rfl (by first | exact ⟨(.take (Pick.none _)), rfl⟩ | exact ⟨(.leave (.take (Pick.none _))), rfl⟩ | exact ⟨(.leave (.leave (.take (Pick.none _)))), rfl⟩ | exact ⟨(.leave (.leave (.leave (.take (Pick.none _))))), rfl⟩ | exact ⟨(.leave (.leave (.leave (.leave (.take (Pick.none _)))))), rfl⟩ | exact ⟨(.leave (.leave (.leave (.leave (.leave (.take (Pick.none _))))))), rfl⟩ | exact ⟨(.leave (.leave (.leave (.leave (.leave (.leave (.take (Pick.none _)))))))), rfl⟩ | exact ⟨(.leave (.leave (.leave (.leave (.leave (.leave (.leave (.take (Pick.none _))))))))), rfl⟩ | exact ⟨(.leave (.leave (.leave (.leave (.leave (.leave (.leave (.leave (.take (Pick.none _)))))))))), rfl⟩ | exact ⟨(.leave (.leave (.leave (.leave (.leave (.leave (.leave (.leave (.leave (.take (Pick.none _))))))))))), rfl⟩) (Src.cel (by repeat (first | exact List.Mem.head _ | apply List.Mem.tail)) (itc_len (x := (p, ⟨f, ob1, cap1⟩)) hfo)) (ones_it _) (by first | omega | (simp only [maxLen]; omega)) (by first | omega | (simp only [maxLen]; omega)) ?_
                intro ob3 cap3 ho3
                refine RL.appendA el_52 rfl rfl rfl rfl rfl rfl rfl (by first | exact ⟨(.take (Pick.none _)), rfl⟩ | exact ⟨(.leave (.take (Pick.none _))), rfl⟩ | exact ⟨(.leave (.leave (.take (Pick.none _)))), rfl⟩ | exact ⟨(.leave (.leave (.leave (.take (Pick.none _))))), rfl⟩ | exact ⟨(.leave (.leave (.leave (.leave (.take (Pick.none _)))))), rfl⟩ | exact ⟨(.leave (.leave (.leave (.leave (.leave (.take (Pick.none _))))))), rfl⟩ | exact ⟨(.leave (.leave (.leave (.leave (.leave (.leave (.take (Pick.none _)))))))), rfl⟩ | exact ⟨(.leave (.leave (.leave (.leave (.leave (.leave (.leave (.take (Pick.none _))))))))), rfl⟩ | exact ⟨(.leave (.leave (.leave (.leave (.leave (.leave (.leave (.leave (.take (Pick.none _)))))))))), rfl⟩ | exact ⟨(.leave (.leave (.leave (.leave (.leave (.leave (.leave (.leave (.leave (.take (Pick.none _))))))))))), rfl⟩) (hs2 (by repeat (first | exact List.Mem.head _ | apply List.Mem.tail))) (ones_its _) (by first | omega | (simp only [maxLen]; omega)) (by first | omega | (simp only [maxLen]; omega)) ?_
                intro ob4 cap4 ho4
                refine RL.nilCheck rfl rfl rfl rfl ?_
                refine RL.fieldAddr fa_54_0 rfl rfl rfl rfl ?_
                refine RL.store (vs := [_]) Try.sizeOf52 rfl rfl rfl rfl rfl rfl rfl rfl rfl (by repeat (first | exact Upd.here | apply Upd.there)) ?_
                refine RL.nil ?_
                refine NQ.seq ?_
                refine CW.only .nil ?_
                refine CW.seq ?_
                refine CW.region (ef := []) (bk := []) ?_
                refine RL.assign rfl rfl rfl rfl ?_
                refine RL.nil ?_
                refine NQ.seq ?_
                refine CW.ret ?_
                refine RQ.rea (fun _ h => h) (H' := [bodyO ⟨f, ob1, cap1⟩, rbufI y ob4 (0 + (i - 0) + 1 + (R.length - i)) cap4, own ob4 cap4 65 23 (0 + (i - 0) + 1 + (R.length - i)) ([] ++ (R.take i).flatMap itc ++ itc (p, ⟨f, ob1, cap1⟩) ++ (R.drop i).flatMap itc)]) (by repeat (first | exact Rea.nil | (apply Rea.cons; (solve | (repeat (first | exact Del.here | apply Del.there)))))) (RQ.post (res1 rfl rfl) (.give (.keep (.keep .nil))) ⟨0, insL R p ⟨f, ob1, cap1⟩, ob4, cap4, rfl, .yes _ rfl he, ins_fin hi hins y ob4 cap4⟩)
            ·
              refine RL.loadq Try.isAgg52 rfl rfl rfl rfl ?_
              refine RL.slice (lo := i) (hi := R.length) Try.runUnderlying52 Try.sizeOf65 rfl rfl rfl rfl rfl rfl (by omega) (by omega) ?_
              refine RL.buildOwn [] Try.runUnderlying52 Try.sizeOf65 Try.zeroValue65 rfl rfl (by decide) (by decide) rfl (by decide) rfl rfl rfl rfl rfl rfl ?_
              intro b5
              refine RL.appendA el_52 rfl rfl rfl rfl rfl rfl rfl (by first | exact ⟨(.take (Pick.none _)), rfl⟩ | exact ⟨(.leave (.take (Pick.none _))), rfl⟩ | exact ⟨(.leave (.leave (.take (Pick.none _)))), rfl⟩ | exact ⟨(.leave (.leave (.leave (.take (Pick.none _))))), rfl⟩ | exact ⟨(.leave (.leave (.leave (.leave (.take (Pick.none _)))))), rfl⟩ | exact ⟨(.leave (.leave (.leave (.leave (.leave (.take (Pick.none _))))))), rfl⟩ | exact ⟨(.leave (.leave (.leave (.leave (.leave (.leave (.take (Pick.none _)))))))), rfl⟩ | exact ⟨(.leave (.leave (.leave (.leave (.leave (.leave (.leave (.take (Pick.none _))))))))), rfl⟩ | exact ⟨(.leave (.leave (.leave (.leave (.leave (.leave (.leave (.leave (.take (Pick.none _)))))))))), rfl⟩ | exact ⟨(.leave (.leave (.leave (.leave (.leave (.leave (.leave (.leave (.leave (.take (Pick.none _))))))))))), rfl⟩) (hs1 (by repeat (first | exact List.Mem.head _ | apply List.Mem.tail))) (ones_its _) (by first | omega | (simp only [maxLen]; omega)) (by first | omega | (simp only [maxLen]; omega)) ?_
              intro ob2 cap2 ho2
              refine RL.appendA el_52 rfl rfl rfl rfl rfl rfl rfl (by first | exact ⟨(.take (Pick.none _)), rfl⟩ | exact ⟨(.leave (.take (Pick.none _))), rfl⟩ | exact ⟨(.leave (.leave (.take (Pick.none _)))), rfl⟩ | exact ⟨(.leave (.leave (.leave (.take (Pick.none _))))), rfl⟩ | exact ⟨(.leave (.leave (.leave (.leave (.take (Pick.none _)))))), rfl⟩ | exact ⟨(.leave (.leave (.leave (.leave (.leave (.take (Pick.none _))))))), rfl⟩ | exact ⟨(.leave (.leave (.leave (.leave (.leave (.leave (.take (Pick.none _)))))))), rfl⟩ | exact ⟨(.leave (.leave (.leave (.leave (.leave (.leave (.leave (.take (Pick.none _))))))))), rfl⟩ | exact ⟨(.leave (.leave (.leave (.leave (.leave (.leave (.leave (.leave (.take (Pick.none _)))))))))), rfl⟩ | exact ⟨(.leave (.leave (.leave (.leave (.leave (.leave (.leave (.leave (.leave (.take (Pick.none _))))))))))), rfl⟩) (Src.cel (by repeat (first | exact List.Mem.head _ | apply List.Mem.tail)) (itc_len (x := (p, ⟨f, ob1, cap1⟩)) hfo)) (ones_it _) (by first | omega | (simp only [maxLen]; omega)) (by first | omega | (simp only [maxLen]; omega)) ?_
              intro ob3 cap3 ho3
              refine RL.appendA el_52 rfl rfl rfl rfl rfl rfl rfl (by first | exact ⟨(.take (Pick.none _)), rfl⟩ | exact ⟨(.leave (.take (Pick.none _))), rfl⟩ | exact ⟨(.leave (.leave (.take (Pick.none _)))), rfl⟩ | exact ⟨(.leave (.leave (.leave (.take (Pick.none _))))), rfl⟩ | exact ⟨(.leave (.leave (.leave (.leave (.take (Pick.none _)))))), rfl⟩ | exact ⟨(.leave (.leave (.leave (.leave (.leave (.take (Pick.none _))))))), rfl⟩ | exact ⟨(.leave (.leave (.leave (.leave (.leave (.leave (.take (Pick.none _)))))))), rfl⟩ | exact ⟨(.leave (.leave (.leave (.leave (.leave (.leave (.leave (.take (Pick.none _))))))))), rfl⟩ | exact ⟨(.leave (.leave (.leave (.leave (.leave (.leave (.leave (.leave (.take (Pick.none _)))))))))), rfl⟩ | exact ⟨(.leave (.leave (.leave (.leave (.leave (.leave (.leave (.leave (.leave (.take (Pick.none _))))))))))), rfl⟩) (hs2 (by repeat (first | exact List.Mem.head _ | apply List.Mem.tail))) (ones_its _) (by first | omega | (simp only [maxLen]; omega)) (by first | omega | (simp only [maxLen]; omega)) ?_
              intro ob4 cap4 ho4
              refine RL.nilCheck rfl rfl rfl rfl ?_
              refine RL.fieldAddr fa_54_0 rfl rfl rfl rfl ?_
              refine RL.store (vs := [_]) Try.sizeOf52 rfl rfl rfl rfl rfl rfl rfl rfl rfl (by repeat (first | exact Upd.here | apply Upd.there)) ?_
              refine RL.nil ?_
              refine NQ.seq ?_
              refine CW.only .nil ?_
              refine CW.seq ?_
              refine CW.region (ef := []) (bk := []) ?_
              refine RL.assign rfl rfl rfl rfl ?_
              refine RL.nil ?_
              refine NQ.seq ?_
              refine CW.ret ?_
              refine RQ.rea (fun _ h => h) (H' := [bodyO ⟨f, ob1, cap1⟩, rbufI y ob4 (0 + (i - 0) + 1 + (R.length - i)) cap4, own ob4 cap4 65 23 (0 + (i - 0) + 1 + (R.length - i)) ([] ++ (R.take i).flatMap itc ++ itc (p, ⟨f, ob1, cap1⟩) ++ (R.drop i).flatMap itc)]) (by repeat (first | exact Rea.nil | (apply Rea.cons; (solve | (repeat (first | exact Del.here | apply Del.there)))))) (RQ.post (res1 rfl rfl) (.give (.keep (.keep .nil))) ⟨0, insL R p ⟨f, ob1, cap1⟩, ob4, cap4, rfl, .yes _ rfl he, ins_fin hi hins y ob4 cap4⟩)
          ·
            refine RL.loadq Try.isAgg52 rfl rfl rfl rfl ?_
            refine RL.slice (lo := i) (hi := R.length) Try.runUnderlying52 Try.sizeOf65 rfl rfl rfl rfl rfl rfl (by omega) (by omega) ?_
            refine RL.fork ⟨?_, ?_, trivial⟩
            ·
              refine RL.buildOwn [] Try.runUnderlying52 Try.sizeOf65 Try.zeroValue65 rfl rfl (by decide) (by decide) rfl (by decide) rfl rfl rfl rfl rfl rfl ?_
              intro b5
              refine RL.fork ⟨?_, ?_, trivial⟩
              ·
                refine RL.appendA el_52 rfl rfl rfl rfl rfl rfl rfl (by first | exact ⟨(.take (Pick.none _)), rfl⟩ | exact ⟨(.leave (.take (Pick.none _))), rfl⟩ | exact ⟨(.leave (.leave (.take (Pick.none _)))), rfl⟩ | exact ⟨(.leave (.leave (.leave (.take (Pick.none _))))), rfl⟩ | exact ⟨(.leave (.leave (.leave (.leave (.take (Pick.none _)))))), rfl⟩ | exact ⟨(.leave (.leave (.leave (.leave (.leave (.take (Pick.none _))))))), rfl⟩ | exact ⟨(.leave (.leave (.leave (.leave (.leave (.leave (.take (Pick.none _)))))))), rfl⟩ | exact ⟨(.leave (.leave (.leave (.leave (.leave (.leave (.leave (.take (Pick.none _))))))))), rfl⟩ | exact ⟨(.leave (.leave (.leave (.leave (.leave (.leave (.leave (.leave (.take (Pick.none _)))))))))), rfl⟩ | exact ⟨(.leave (.leave (.leave (.leave (.leave (.leave (.leave (.leave (.leave (.take (Pick.none _))))))))))), rfl⟩) (hs1 (by repeat (first | exact List.Mem.head _ | apply List.Mem.tail))) (ones_its _) (by first | omega | (simp only [maxLen]; omega)) (by first | omega | (simp only [maxLen]; omega)) ?_
                intro ob2 cap2 ho2
                refine RL.buildSlice (itc (p, ⟨f, ob1, cap1⟩)) Try.runUnderlying52 Try.sizeOf65 Try.zeroValue65 rfl rfl (by decide) (by decide) rfl rfl rfl rfl rfl (fill_one23 (itc_len (x := (p, ⟨f, ob1, cap1⟩)) hfo) rfl) ?_
                intro b6
                refine RL.appendA el_52 rfl rfl rfl rfl rfl rfl rfl (by first | exact ⟨(.take (Pick.none _)), rfl⟩ | exact ⟨(.leave (.take (Pick.none _))), rfl⟩ | exact ⟨(.leave (.leave (.take (Pick.none _)))), rfl⟩ | exact ⟨(.leave (.leave (.leave (.take (Pick.none _))))), rfl⟩ | exact ⟨(.leave (.leave (.leave (.leave (.take (Pick.none _)))))), rfl⟩ | exact ⟨(.leave (.leave (.leave (.leave (.leave (.take (Pick.none _))))))), rfl⟩ | exact ⟨(.leave (.leave (.leave (.leave (.leave (.leave (.take (Pick.none _)))))))), rfl⟩ | exact ⟨(.leave (.leave (.leave (.leave (.leave (.leave (.leave (.take (Pick.none _))))))))), rfl⟩ | exact ⟨(.leave (.leave (.leave (.leave (.leave (.leave (.leave (.leave (.take (Pick.none _)))))))))), rfl⟩ | exact ⟨(.leave (.leave (.leave (.leave (.leave (.leave (.leave (.leave (.leave (.take (Pick.none _))))))))))), rfl⟩) (Src.cel (by repeat (first | exact List.Mem.head _ | apply List.Mem.tail)) (itc_len (x := (p, ⟨f, ob1, cap1⟩)) hfo)) (ones_it _) (by first | omega | (simp only [maxLen]; omega)) (by first | omega | (simp only [maxLen]; omega)) ?_
                intro ob3 cap3 ho3
                refine RL.appendA el_52 rfl rfl rfl rfl rfl rfl rfl (by first | exact ⟨(.take (Pick.none _)), rfl⟩ | exact ⟨(.leave (.take (Pick.none _))), rfl⟩ | exact ⟨(.leave (.leave (.take (Pick.none _)))), rfl⟩ | exact ⟨(.leave (.leave (.leave (.take (Pick.none _))))), rfl⟩ | exact ⟨(.leave (.leave (.leave (.leave (.take (Pick.none _)))))), rfl⟩ | exact ⟨(.leave (.leave (.leave (.leave (.leave (.take (Pick.none _))))))), rfl⟩ | exact ⟨(.leave (.leave (.leave (.leave (.leave (.leave (.take (Pick.none _)))))))), rfl⟩ | exact ⟨(.leave (.leave (.leave (.leave (.leave (.leave (.leave (.take (Pick.none _))))))))), rfl⟩ | exact ⟨(.leave (.leave (.leave (.leave (.leave (.leave (.leave (.leave (.take (Pick.none _)))))))))), rfl⟩ | exact ⟨(.leave (.leave (.leave (.leave (.leave (.leave (.leave (.leave (.leave (.take (Pick.none _))))))))))), rfl⟩) (hs2 (by repeat (first | exact List.Mem.head _ | apply List.Mem.tail))) (ones_its _) (by first | omega | (simp only [maxLen]; omega)) (by first | omega | (simp only [maxLen]; omega)) ?_
                intro ob4 cap4 ho4
                refine RL.nilCheck rfl rfl rfl rfl ?_
                refine RL.fieldAddr fa_54_0 rfl rfl rfl rfl ?_
                refine RL.store (vs := [_]) Try.sizeOf52 rfl rfl rfl rfl rfl rfl rfl rfl rfl (by repeat (first | exact Upd.here | apply Upd.there)) ?_
                refine RL.nil ?_
                refine NQ.seq ?_
                refine CW.only .nil ?_
                refine CW.seq ?_
                refine CW.region (ef := []) (bk := []) ?_
                refine RL.assign rfl rfl rfl rfl ?_
                refine RL.nil ?_
                refine NQ.seq ?_
                refine CW.ret ?_
                refine RQ.rea (fun _ h => h) (H' := [bodyO ⟨f, ob1, cap1⟩, rbufI y ob4 (0 + (i - 0) + 1 + (R.length - i)) cap4, own ob4 cap4 65 23 (0 + (i - 0) + 1 + (R.length - i)) ([] ++ (R.take i).flatMap itc ++ itc (p, ⟨f, ob1, cap1⟩) ++ (R.drop i).flatMap itc)]) (by repeat (first | exact Rea.nil | (apply Rea.cons; (solve | (repeat (first | exact Del.here | apply Del.there)))))) (RQ.post (res1 rfl rfl) (.give (.keep (.keep .nil))) ⟨0, insL R p ⟨f, ob1, cap1⟩, ob4, cap4, rfl, .yes _ rfl he, ins_fin hi hins y ob4 cap4⟩)
              ·
                refine RL.buildSlice (itc (p, ⟨f, ob1, cap1⟩)) Try.runUnderlying52 Try.sizeOf65 Try.zeroValue65 rfl rfl (by decide) (by decide) rfl rfl rfl rfl rfl (fill_one23 (itc_len (x := (p, ⟨f, ob1, cap1⟩)) hfo) rfl) ?_
                intro b6
                refine RL.appendA el_52 rfl rfl rfl rfl rfl rfl rfl (by first | exact ⟨(.take (Pick.none _)), rfl⟩ | exact ⟨(.leave (.take (Pick.none _))), rfl⟩ | exact ⟨(.leave (.leave (.take (Pick.none _)))), rfl⟩ | exact ⟨(.leave (.leave (.leave (.take (Pick.none _))))), rfl⟩ | exact ⟨(.leave (.leave (.leave (.leave (.take (Pick.none _)))))), rfl⟩ | exact ⟨(.leave (.leave (.leave (.leave (.leave (.take (Pick.none _))))))), rfl⟩ | exact ⟨(.leave (.leave (.leave (.leave (.leave (.leave (.take (Pick.none _)))))))), rfl⟩ | exact ⟨(.leave (.leave (.leave (.leave (.leave (.leave (.leave (.take (Pick.none _))))))))), rfl⟩ | exact ⟨(.leave (.leave (.leave (.leave (.leave (.leave (.leave (.leave (.take (Pick.none _)))))))))), rfl⟩ | exact ⟨(.leave (.leave (.leave (.leave (.leave (.leave (.leave (.leave (.leave (.take (Pick.none _))))))))))), rfl⟩) (hs1 (by repeat (first | exact List.Mem.head _ | apply List.Mem.tail))) (ones_its _) (by first | omega | (simp only [maxLen]; omega)) (by first | omega | (simp only [maxLen]; omega)) ?_
                intro ob2 cap2 ho2
                refine RL.appendA el_52 rfl rfl rfl rfl rfl rfl rfl (by first | exact ⟨(.take (Pick.none _)), rfl⟩ | exact ⟨(.leave (.take (Pick.none _))), rfl⟩ | exact ⟨(.leave (.leave (.take (Pick.none _)))), rfl⟩ | exact ⟨(.leave (.leave (.leave (.take (Pick.none _))))), rfl⟩ | exact ⟨(.leave (.leave (.leave (.leave (.take (Pick.none _)))))), rfl⟩ | exact ⟨(.leave (.leave (.leave (.leave (.leave (.take (Pick.none _))))))), rfl⟩ | exact ⟨(.leave (.leave (.leave (.leave (.leave (.leave (.take (Pick.none _)))))))), rfl⟩ | exact ⟨(.leave (.leave (.leave (.leave (.leave (.leave (.leave (.take (Pick.none _))))))))), rfl⟩ | exact ⟨(.leave (.leave (.leave (.leave (.leave (.leave (.leave (.leave (.take (Pick.none _)))))))))), rfl⟩ | exact ⟨(.leave (.leave (.leave (.leave (.leave (.leave (.leave (.leave (.leave (.take (Pick.none _))))))))))), rfl⟩) (Src.cel (by repeat (first | exact List.Mem.head _ | apply List.Mem.tail)) (itc_len (x := (p, ⟨f, ob1, cap1⟩)) hfo)) (ones_it _) (by first | omega | (simp only [maxLen]; omega)) (by first | omega | (simp only [maxLen]; omega)) ?_
                intro ob3 cap3 ho3
                refine RL.appendA el_52 rfl rfl rfl rfl rfl rfl rfl (by first | exact ⟨(.take (Pick.none _)), rfl⟩ | exact ⟨(.leave (.take (Pick.none _))), rfl⟩ | exact ⟨(.leave (.leave (.take (Pick.none _)))), rfl⟩ | exact ⟨(.leave (.leave (.leave (.take (Pick.none _))))), rfl⟩ | exact ⟨(.leave (.leave (.leave (.leave (.take (Pick.none _)))))), rfl⟩ | exact ⟨(.leave (.leave (.leave (.leave (.leave (.take (Pick.none _))))))), rfl⟩ | exact ⟨(.leave (.leave (.leave (.leave (.leave (.leave (.take (Pick.none _)))))))), rfl⟩ | exact ⟨(.leave (.leave (.leave (.leave (.leave (.leave (.leave (.take (Pick.none _))))))))), rfl⟩ | exact ⟨(.leave (.leave (.leave (.leave (.leave (.leave (.leave (.leave (.take (Pick.none _)))))))))), rfl⟩ | exact ⟨(.leave (.leave (.leave (.leave (.leave (.leave (.leave (.leave (.leave (.take (Pick.none _))))))))))), rfl⟩) (hs2 (by repeat (first | exact List.Mem.head _ | apply List.Mem.tail))) (ones_its _) (by first | omega | (simp only [maxLen]; omega)) (by first | omega | (simp only [maxLen]; omega)) ?_
                intro ob4 cap4 ho4
                refine RL.nilCheck rfl rfl rfl rfl ?_
                refine RL.fieldAddr fa_54_0 rfl rfl rfl rfl ?_
                refine RL.store (vs := [_]) Try.sizeOf52 rfl rfl rfl rfl rfl rfl rfl rfl rfl (by repeat (first | exact Upd.here | apply Upd.there)) ?_
                refine RL.nil ?_
                refine NQ.seq ?_
                refine CW.only .nil ?_
                refine CW.seq ?_
                refine CW.region (ef := []) (bk := []) ?_
                refine RL.assign rfl rfl rfl rfl ?_
                refine RL.nil ?_
                refine NQ.seq ?_
                refine CW.ret ?_
                refine RQ.rea (fun _ h => h) (H' := [bodyO ⟨f, ob1, cap1⟩, rbufI y ob4 (0 + (i - 0) + 1 + (R.length - i)) cap4, own ob4 cap4 65 23 (0 + (i - 0) + 1 + (R.length - i)) ([] ++ (R.take i).flatMap itc ++ itc (p, ⟨f, ob1, cap1⟩) ++ (R.drop i).flatMap itc)]) (by repeat (first | exact Rea.nil | (apply Rea.cons; (solve | (repeat (first | exact Del.here | apply Del.there)))))) (RQ.post (res1 rfl rfl) (.give (.keep (.keep .nil))) ⟨0, insL R p ⟨f, ob1, cap1⟩, ob4, cap4, rfl, .yes _ rfl he, ins_fin hi hins y ob4 cap4⟩)
            ·
              refine RL.buildSlice (itc (p, ⟨f, ob1, cap1⟩)) Try.runUnderlying52 Try.sizeOf65 Try.zeroValue65 rfl rfl (by decide) (by decide) rfl rfl rfl rfl rfl (fill_one23 (itc_len (x := (p, ⟨f, ob1, cap1⟩)) hfo) rfl) ?_
              intro b6
              refine RL.buildOwn [] Try.runUnderlying52 Try.sizeOf65 Try.zeroValue65 rfl rfl (by decide) (by decide) rfl (by decide) rfl rfl rfl rfl rfl rfl ?_
              intro b5
              refine RL.appendA el_52 rfl rfl rfl rfl rfl rfl rfl (by first | exact ⟨(.take (Pick.none _)), rfl⟩ | exact ⟨(.leave (.take (Pick.none _))), rfl⟩ | exact ⟨(.leave (.leave (.take (Pick.none _)))), rfl⟩ | exact ⟨(.leave (.leave (.leave (.take (Pick.none _))))), rfl⟩ | exact ⟨(.leave (.leave (.leave (.leave (.take (Pick.none _)))))), rfl⟩ | exact ⟨(.leave (.leave (.leave (.leave (.leave (.take (Pick.none _))))))), rfl⟩ | exact ⟨(.leave (.leave (.leave (.leave (.leave (.leave (.take (Pick.none _)))))))), rfl⟩ | exact ⟨(.leave (.leave (.leave (.leave (.leave (.leave (.leave (.take (Pick.none _))))))))), rfl⟩ | exact ⟨(.leave (.leave (.leave (.leave (.leave (.leave (.leave (.leave (.take (Pick.none _)))))))))), rfl⟩ | exact ⟨(.leave (.leave (.leave (.leave (.leave (.leave (.leave (.leave (.leave (.take (Pick.none _))))))))))), rfl⟩) (hs1 (by repeat (first | exact List.Mem.head _ | apply List.Mem.tail))) (ones_its _) (by first | omega | (simp only [maxLen]; omega)) (by first | omega | (simp only [maxLen]; omega)) ?_
              intro ob2 cap2 ho2
              refine RL.appendA el_52 rfl rfl rfl rfl rfl rfl rfl (by first | exact ⟨(.take (Pick.none _)), rfl⟩ | exact ⟨(.leave (.take (Pick.none _))), rfl⟩ | exact ⟨(.leave (.leave (.take (Pick.none _)))), rfl⟩ | exact ⟨(.leave (.leave (.leave (.take (Pick.none _))))), rfl⟩ | exact ⟨(.leave (.leave (.leave (.leave (.take (Pick.none _)))))), rfl⟩ | exact ⟨(.leave (.leave (.leave (.leave (.leave (.take (Pick.none _))))))), rfl⟩ | exact ⟨(.leave (.leave (.leave (.leave (.leave (.leave (.take (Pick.none _)))))))), rfl⟩ | exact ⟨(.leave (.leave (.leave (.leave (.leave (.leave (.leave (.take (Pick.none _))))))))), rfl⟩ | exact ⟨(.leave (.leave (.leave (.leave (.leave (.leave (.leave (.leave (.take (Pick.none _)))))))))), rfl⟩ | exact ⟨(.leave (.leave (.leave (.leave (.leave (.leave (.leave (.leave (.leave (.take (Pick.none _))))))))))), rfl⟩) (Src.cel (by repeat (first | exact List.Mem.head _ | apply List.Mem.tail)) (itc_len (x := (p, ⟨f, ob1, cap1⟩)) hfo)) (ones_it _) (by first | omega | (simp only [maxLen]; omega)) (by first | omega | (simp only [maxLen]; omega)) ?_
              intro ob3 cap3 ho3
              refine RL.appendA el_52 rfl rfl rfl rfl rfl rfl rfl (by first | exact ⟨(.take (Pick.none _)), rfl⟩ | exact ⟨(.leave (.take (Pick.none _))), rfl⟩ | exact ⟨(.leave (.leave (.take (Pick.none _)))), rfl⟩ | exact ⟨(.leave (.leave (.leave (.take (Pick.none _))))), rfl⟩ | exact ⟨(.leave (.leave (.leave (.leave (.take (Pick.none _)))))), rfl⟩ | exact ⟨(.leave (.leave (.leave (.leave (.leave (.take (Pick.none _))))))), rfl⟩ | exact ⟨(.leave (.leave (.leave (.leave (.leave (.leave (.take (Pick.none _)))))))), rfl⟩ | exact ⟨(.leave (.leave (.leave (.leave (.leave (.leave (.leave (.take (Pick.none _))))))))), rfl⟩ | exact ⟨(.leave (.leave (.leave (.leave (.leave (.leave (.leave (.leave (.take (Pick.none _)))))))))), rfl⟩ | exact ⟨(.leave (.leave (.leave (.leave (.leave (.leave (.leave (.leave (.leave (.take (Pick.none _))))))))))), rfl⟩) (hs2 (by repeat (first | exact List.Mem.head _ | apply List.Mem.tail))) (ones_its _) (by first | omega | (simp only [maxLen]; omega)) (by first | omega | (simp only [maxLen]; omega)) ?_
              intro ob4 cap4 ho4
              refine RL.nilCheck rfl rfl rfl rfl ?_
              refine RL.fieldAddr fa_54_0 rfl rfl rfl rfl ?_
              refine RL.store (vs := [_]) Try.sizeOf52 rfl rfl rfl rfl rfl rfl rfl rfl rfl (by repeat (first | exact Upd.here | apply Upd.there)) ?_
              refine RL.nil ?_
              refine NQ.seq ?_
              refine CW.only .nil ?_
              refine CW.seq ?_
              refine CW.region (ef := []) (bk := []) ?_
              refine RL.assign rfl rfl rfl rfl ?_
              refine RL.nil ?_
              refine NQ.seq ?_
              refine CW.ret ?_
              refine RQ.rea (fun _ h => h) (H' := [bodyO ⟨f, ob1, cap1⟩, rbufI y ob4 (0 + (i - 0) + 1 + (R.length - i)) cap4, own ob4 cap4 65 23 (0 + (i - 0) + 1 + (R.length - i)) ([] ++ (R.take i).flatMap itc ++ itc (p, ⟨f, ob1, cap1⟩) ++ (R.drop i).flatMap itc)]) (by repeat (first | exact Rea.nil | (apply Rea.cons; (solve | (repeat (first | exact Del.here | apply Del.there)))))) (RQ.post (res1 rfl rfl) (.give (.keep (.keep .nil))) ⟨0, insL R p ⟨f, ob1, cap1⟩, ob4, cap4, rfl, .yes _ rfl he, ins_fin hi hins y ob4 cap4⟩)
end Go.Proofs.Ytggmnhogmjglmaa
