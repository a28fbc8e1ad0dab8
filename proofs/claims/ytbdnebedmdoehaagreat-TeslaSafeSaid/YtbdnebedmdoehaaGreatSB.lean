import Derived.Test.YtbdnebedmdoehaaGreatSA
import Derived.Test.YtbdnebedmdoehaaGreatPE
namespace Go.Proofs.YtbdnebedmdoehaaGreat
open Go.PK
/-! ### Slots: an interval and a key -/
def skc (i : Nat) (k : List B8) : List Value := .int .u32 (i : Int) :: bytes k
abbrev skV (i : Nat) (k : List B8) : Value := .agg (skc i k).toArray
def skG (v : Value) : Prop := ∃ cs, Fits (.int .u32 :: List.replicate 32 (.int .u8)) cs ∧ v = .agg cs.toArray
theorem keySk : KeyT Tryz.prog 141 skG :=
  keyT_flat (m := 4) (by decide) (by decide +kernel) (by kernel_rfl) (by decide +kernel) (by decide +kernel) ⟨_, Tryz.runUnderlying141, fun _ _ => rfl⟩
theorem fits8 : ∀ {k : List B8} {n : Nat}, k.length = n → Fits (List.replicate n (.int .u8)) (bytes k)
  | [], _, rfl => trivial
  | a :: k, _, rfl => by
    rw [List.length_cons, List.replicate_succ]
    exact ⟨⟨rfl, by have := a.isLt; simp only [wfk, Lit.wf, IntKind.min, IntKind.max, IntKind.signed, IntKind.bits, Bool.and_eq_true, decide_eq_true_eq, Bool.false_eq_true, if_false]; omega⟩, fits8 rfl⟩
theorem skV_good {i : Nat} {k : List B8} (hi : i < 4294967296) (hk : k.length = 32) : skG (skV i k) :=
  ⟨skc i k, ⟨⟨rfl, by simp only [wfk, Lit.wf, IntKind.min, IntKind.max, IntKind.signed, IntKind.bits, Bool.and_eq_true, decide_eq_true_eq, Bool.false_eq_true, if_false]; omega⟩, fits8 hk⟩, rfl⟩
theorem bytes_inj : ∀ {a b : List B8}, bytes a = bytes b → a = b
  | [], [], _ => rfl
  | [], _ :: _, h => by cases h
  | _ :: _, [], h => by cases h
  | x :: a, y :: b, h => by
    simp only [bytes, List.map_cons, List.cons.injEq] at h
    have h2 := bytes_inj (a := a) (b := b) h.2
    have h1 := h.1
    simp [U8] at h1
    rw [h2, show x = y from BitVec.eq_of_toNat_eq (by omega)]
theorem skV_inj {i j : Nat} {k l : List B8} (h : skV i k = skV j l) : i = j ∧ k = l := by
  simp only [skV, skc, Value.agg.injEq, Array.mk.injEq, List.cons.injEq, Value.int.injEq, true_and] at h
  exact ⟨by omega, bytes_inj h.2⟩
/-- What is known: of each slot the key that it leads to. -/
def Kn (L : List (Value × Value)) : Prop := ∀ x ∈ L, ∃ i k, x = (skV i k, .agg (bytes (tagK k i)).toArray)
theorem lookV_mem {x v : Value} : ∀ {L : List (Value × Value)}, lookV x L = some v → (x, v) ∈ L
  | [], h => by cases h
  | (a, b) :: L, h => by
    rw [lookV] at h
    split at h
    · next e => cases h; subst e; exact List.mem_cons_self
    · exact List.mem_cons_of_mem _ (lookV_mem h)
theorem setV_mem {x v : Value} : ∀ {L : List (Value × Value)}, ∀ y ∈ setV x v L, y ∈ L ∨ y = (x, v)
  | [], y, h => by simp [setV] at h; exact .inr h
  | (a, b) :: L, y, h => by
    rw [setV] at h
    split at h
    · next e =>
      rcases List.mem_cons.1 h with h | h
      · exact .inr (by subst e; simpa using h)
      · exact .inl (List.mem_cons_of_mem _ h)
    · rcases List.mem_cons.1 h with h | h
      · exact .inl (h ▸ List.mem_cons_self)
      · rcases setV_mem y h with h | h
        · exact .inl (List.mem_cons_of_mem _ h)
        · exact .inr h
theorem Kn.look {L : List (Value × Value)} (h : Kn L) {i : Nat} {k : List B8} {v : Value} (e : lookV (skV i k) L = some v) : v = .agg (bytes (tagK k i)).toArray := by
  obtain ⟨j, l, hx⟩ := h _ (lookV_mem e)
  obtain ⟨h1, rfl⟩ := Prod.mk.inj hx
  obtain ⟨rfl, rfl⟩ := skV_inj h1
  rfl
theorem Kn.set {L : List (Value × Value)} (h : Kn L) (i : Nat) (k : List B8) : Kn (setV (skV i k) (.agg (bytes (tagK k i)).toArray) L) := fun x hx => by
  rcases setV_mem x hx with hx | rfl
  · exact h x hx
  · exact ⟨i, k, rfl⟩
/-! ### Released -/
def okIt (k : List B8) (iv : Nat) (x : Pq × FrO) : Bool := x.2.f.tag == macTag (tagK (nextN k (iv - x.1.1.toNat)) x.1.1.toNat) x.2.f.signed
def relL (k : List B8) (iv : Nat) (T : Bq) : List FrO := (T.filter (okIt k iv)).map (·.2)
theorem relL_snoc {k : List B8} {iv : Nat} (T : Bq) (x : Pq × FrO) : relL k iv (T ++ [x]) = if okIt k iv x then relL k iv T ++ [x.2] else relL k iv T := by
  simp only [relL, List.filter_append, List.map_append]
  by_cases h : okIt k iv x = true
  · simp [h]
  · simp [h]
theorem relL_le (k : List B8) (iv : Nat) (T : Bq) : (relL k iv T).length ≤ T.length := by
  simpa [relL] using List.length_filter_le (okIt k iv) T
def RelR (B : RBk) (z : RSt) (iv : Nat) (key : List B8) : Value → List It → List It → Prop := fun v I' H' => ∃ T c' ob cp, TakeO z.c iv T c' ∧ v = slO ob (relL key iv T).length cp ∧ I' = [] ∧
  H' = [own ob cp 30 21 (relL key iv T).length ((relL key iv T).flatMap FrO.cells), recI B { z with bad := z.bad + (T.length - (relL key iv T).length), rel := z.rel + (relL key iv T).length }, bufI B.q B.r, mapQ B.r c']
theorem ones_fro (x : FrO) : ones x.cells = true := ones_fr _ rfl
theorem fill_one21 {cs zs : List Value} (h : cs.length = 21) (hz : zs.length = 21) : fillL (fun j => some (j * 21, 21)) (reps zs 1) [(0, .agg cs.toArray)] = some cs := by
  refine fill_seg [] zs [] rfl (agg_cells _) (by simp [reps]) rfl hz h ?_
  simp [fillL]
theorem fill_sk {i : Nat} {k z : List B8} (hk : k.length = 32) (hz : z.length = 32) {places : Array (Nat × Nat)} (hp : places = #[(0, 1), (1, 32)]) :
    fillL (places[·]?) (skc 0 z) [(0, .int .u32 (i : Int)), (1, .agg (bytes k).toArray)] = some (skc i k) := by
  subst hp
  refine fill_seg (vs := [.int .u32 (i : Int)]) [] [.int .u32 (0 : Int)] (bytes z) rfl rfl rfl rfl rfl rfl ?_
  refine fill_seg (vs := bytes k) [.int .u32 (i : Int)] (bytes z) [] rfl (agg_cells _) (by simp) rfl (by simp [hz]) (by simp [hk]) ?_
  simp [fillL, skc]
end Go.Proofs.YtbdnebedmdoehaaGreat

namespace Go.Proofs.YtbdnebedmdoehaaGreat
open Go.PK
theorem TakeO.lenT {c : Bq} {iv : Int} {T c' : Bq} (h : TakeO c iv T c') : T.length ≤ c.length := by
  have := h.p.length_eq; simp at this; omega
theorem TakeO.memT {c : Bq} {iv : Int} {T c' : Bq} (h : TakeO c iv T c') : ∀ x ∈ T, x ∈ c := fun x hx => h.p.mem_iff.1 (List.mem_append_left _ hx)
theorem flatK_len {l : List (List B8)} (h : ∀ x ∈ l, x.length = 32) : ∀ x ∈ l, (bytes x).length = 32 := fun x hx => by rw [List.length_map]; exact h x hx
theorem it_tag (x : Pq × FrO) : ∀ (j : Nat) (u : Value), (bytes x.2.f.tag)[j]? = some u → (itc x)[0 + 2 + 5 + j]? = some u := fun j u h => by
  have := fr_tag x.2.f x.2.sl j u h
  rw [show 0 + 2 + 5 + j = (0 + 5 + j) + 1 + 1 by omega]; exact this
theorem it_frm (x : Pq × FrO) : ∀ (j : Nat) (u : Value), x.2.cells[j]? = some u → (itc x)[0 + 2 + j]? = some u := fun j u h => by
  rw [show 0 + 2 + j = j + 1 + 1 by omega]; exact h
theorem sk_key (i : Nat) (k : List B8) : ∀ (j : Nat) (u : Value), (bytes k)[j]? = some u → (skc i k)[0 + 1 + j]? = some u := fun j u h => by
  rw [show 0 + 1 + j = j + 1 by omega]; exact h
theorem set_bad' (B : RBk) {z : RSt} (h : z.k.length = 32) {n : Nat} {v : Int} (hv : v = n) : spl (rcC B z) (0 + 38) [.int .i64 v] = rcC B { z with bad := n } := by subst hv; exact set_bad B h n
theorem set_rel' (B : RBk) {z : RSt} (h : z.k.length = 32) {n : Nat} {v : Int} (hv : v = n) : spl (rcC B z) (0 + 39) [.int .i64 v] = rcC B { z with rel := n } := by subst hv; exact set_rel B h n
theorem tk_look {L : List (Value × Value)} (hL : Kn L) (i : Nat) (k : List B8) : ∃ kz b, kz.length = 32 ∧ Value.tuple #[(lookV (skV i k) L).getD (.agg (bytes (List.replicate 32 0#8)).toArray), .bool (lookV (skV i k) L).isSome] = .tuple #[.agg (bytes kz).toArray, .bool b] ∧ (b = true → kz = tagK k i) := by
  cases h : lookV (skV i k) L with
  | none => exact ⟨_, false, List.length_replicate, rfl, fun e => by cases e⟩
  | some v => exact ⟨tagK k i, true, tagK_len k i, by rw [hL.look h]; rfl, fun _ => rfl⟩
theorem trel_any (B : RBk) (z : RSt) (hz : z.Ok) (iv : Nat) (hiv : iv < 4294967296) (key : List B8) (hkey : key.length = 32) (kb kc m : Nat) (hm : iv - z.iv < m) (hgt : ∀ x ∈ z.c, (z.iv : Int) < x.1.1) (I : List It)
    (hI : own (some kb) kc 23 32 m ((chainL key m).flatMap bytes) ∈ I) (hbo : ∀ x ∈ z.c, bodyO x.2 ∈ I) :
    Spc Tryz.prog 47 #[.pointer (some ⟨B.b, 0, none⟩), .int .u32 (iv : Int), slO (some kb) m kc] I [recI B z, bufI B.q B.r, mapQ B.r z.c] (RelR B z iv key) := by
  have hk := hz.k
  have hcl := hz.l
  refine Spc.enter Tryz.func47 rfl rfl rfl (fun w0 hw0 => ?_)
  refine CW.seq (CW.rg (RL.p rfl (RL.nil (NQ.seq (CW.seq (CW.rg (RL.p rfl (RL.nil (NQ.seq (CW.seq (CW.region (ef := [0]) (bk := []) ?_)))))))))))
  refine RL.makeMap (good := skG) rfl rfl rfl rfl (fun mp => ?_)
  refine RL.p rfl (RL.nil (NQ.seq (CW.seq (CW.seq (CW.region (ef := [5]) (bk := [5]) (RL.p rfl (RL.p rfl (RL.fieldAddr fa_81_3 rfl rfl rfl rfl (RL.load Tryz.isAgg78 rfl rfl rfl rfl (Rd.get (by repeat (first | exact List.Mem.head _ | apply List.Mem.tail)) (rc_q B hk)) ?_)))))))))
  refine RL.p rfl (RL.callq (qtake_any B.q B.r z.c (iv : Int) (fun x hx => hz.c x hx) (by omega)) Tryz.call48 rfl rfl rfl rfl rfl (.inr rfl) ?_)
  rintro _ _ _ ⟨tb, tc, T, c', hT, rfl, rfl, rfl⟩
  have hTl := hT.lenT
  have hTok : ∀ x ∈ T, x.2.Ok := fun x hx => hz.c x (hT.memT x hx)
  have hT23 := itc_fm_len hTok
  have hKl := chainL_len key m
  have hK32 := flatK_len (chainL_all hkey m)
  refine RL.lenS Tryz.runUnderlying100 rfl rfl rfl rfl (RL.p rfl (RL.nil (NQ.seq (CW.ok [0, 1, 2, 6, 7, 8, 20, 21, 22] rfl (CW.block ?_)))))
  refine CW.fact (p := tb = none → T.length = 0) (fun w hC e => by subst e; exact own_none (hC.s.h _ (List.Mem.head _))) (fun hob => ?_)
  refine CW.freezeP (A := [_]) (B := [_, _, _, _]) (.take (.leave (.leave (.leave (.leave .nil))))) rfl ?_
  refine CW.genI (fun J hJ => ?_)
  have mT : own tb tc 139 23 T.length (T.flatMap itc) ∈ J := hJ _ (by simp)
  have mK : own (some kb) kc 23 32 m ((chainL key m).flatMap bytes) ∈ J := hJ _ (by simp [hI])
  have mB : ∀ x ∈ T, bodyO x.2 ∈ J := fun x hx => hJ _ (by simp [hbo x (hT.memT x hx)])
  clear hJ
  refine CW.ownNone (e := 30) 21 ?_
  refine CW.loop (γ := Nat × List (Value × Value) × Option Nat × Nat) (fun g => g.1 ≤ T.length ∧ Kn g.2.1) (fun g => [(0, .pointer (some ⟨B.b, 0, none⟩)), (1, .int .u32 (iv : Int)), (2, slO (some kb) m kc), (7, slO g.2.2.1 (relL key iv (T.take g.1)).length g.2.2.2), (8, .map (some mp)), (20, slO tb T.length tc), (21, .int .i64 (T.length : Int)), (22, .int .i64 (g.1 : Int))])
    (fun _ => J) (fun g => [own g.2.2.1 g.2.2.2 30 21 (relL key iv (T.take g.1)).length ((relL key iv (T.take g.1)).flatMap FrO.cells), mapI mp skG g.2.1, recI B { z with bad := z.bad + (g.1 - (relL key iv (T.take g.1)).length), rel := z.rel + (relL key iv (T.take g.1)).length }, bufI B.q B.r, mapQ B.r c']) (fun g => T.length - g.1) (0, [], none, 0) ⟨by simp, by simp [Kn]⟩
    (.cons rfl (.cons rfl (.cons rfl (.cons rfl (.cons rfl (.cons rfl (.cons rfl (.cons rfl .nil)))))))) (fun w h => h.rea (fun _ h => h) (by repeat (first | exact Rea.nil | (apply Rea.cons; (solve | (repeat (first | exact Del.here | apply Del.there))))))) ?_
  rintro ⟨j, L, ob, cp⟩ ⟨hj, hL⟩
  dsimp only at hj hL ⊢
  have hrl := relL_le key iv (T.take j)
  rw [List.length_take, Nat.min_eq_left hj] at hrl
  generalize hR : relL key iv (T.take j) = R at *
  refine CW.seq (CW.rg (RL.p rfl (RL.nil (NQ.seq (CW.seq ?_)))))
  refine CW.cond rfl (fun hlt => ?_) (fun hlt => ?_)
  ·
    have hlt : j < T.length := by simp at hlt; omega
    obtain ⟨tq, rfl⟩ : ∃ q, tb = some q := by
      cases tb with
      | none => exact absurd (hob rfl) (by omega)
      | some q => exact ⟨q, rfl⟩
    have hTj := List.getElem?_eq_getElem hlt
    have hx0 := List.getElem_mem hlt
    have htk : T.take (j + 1) = T.take j ++ [T[j]] := by rw [List.take_add_one, hTj]; rfl
    generalize T[j] = x at hTj hx0 htk
    have hxo := hTok x hx0
    have h23 := hT23 x hx0
    have hle := hT.le x hx0
    have hxg := hgt x (hT.memT x hx0)
    obtain ⟨⟨p1, p2⟩, y⟩ := x
    dsimp only at hxo h23 hle hxg
    obtain ⟨p1, rfl⟩ : ∃ n : Nat, p1 = (n : Int) := ⟨p1.toNat, by omega⟩
    have hp : p1 ≤ iv := by omega
    have hKj := chainL_get key (show iv - p1 < m by omega)
    have hnk := nextN_len hkey (iv - p1)
    have rK : ∀ H', Rds J H' ⟨kb, 0 + (iv - p1) * 32, none⟩ (bytes (nextN key (iv - p1))) := fun H' => own_rdsI mK hKj hK32
    generalize hnx : nextN key (iv - p1) = kx at *
    have htg := tagK_len kx p1
    have hsub : Value.int .u32 (IntKind.u32.wrap ((iv : Int) - (p1 : Int))) = .int .u32 ((iv - p1 : Nat) : Int) := by
      rw [show (iv : Int) - (p1 : Int) = ((iv - p1 : Nat) : Int) by omega]
      simp [IntKind.wrap, IntKind.bits, IntKind.signed]; omega
    have hsk : (skc p1 kx).length = 33 := by simp [skc, hnk]
    have h21 := fro_len hxo
    have hp32 : p1 < 4294967296 := by omega
    obtain ⟨kz, bz, hkz, hlv, hbz⟩ := tk_look hL p1 kx
    have hbad := hz.bad
    have hrel := hz.rel
    have hbd : (rcC B { z with bad := z.bad + (j - R.length), rel := z.rel + R.length })[0 + 38]? = some (.int .i64 ((z.bad + (j - R.length) : Nat) : Int)) := rc_bad B (z := { z with bad := z.bad + (j - R.length), rel := z.rel + R.length }) hk
    have hrd : (rcC B { z with bad := z.bad + (j - R.length), rel := z.rel + R.length })[0 + 39]? = some (.int .i64 ((z.rel + R.length : Nat) : Int)) := rc_rel B (z := { z with bad := z.bad + (j - R.length), rel := z.rel + R.length }) hk
    have hkz32 : (bytes kz).length = 32 := by rw [List.length_map, hkz]
    have htg32 : (bytes (tagK kx p1)).length = 32 := by rw [List.length_map, htg]
    refine CW.skip (NQ.seq (CW.seq (CW.block (CW.seq (CW.region (ef := [2, 3]) (bk := [3]) (RL.idxAt (j := j) Tryz.runUnderlying100 Tryz.sizeOf139 rfl rfl rfl rfl rfl rfl (hlt) (RL.loadA Tryz.isAgg139 Tryz.sizeOf139 rfl rfl rfl rfl (own_rdsI mT hTj hT23) h23 (RL.alloc Tryz.zeroValue139 rfl rfl rfl rfl rfl ?_))))))))
    intro b1
    refine RL.storeWq Tryz.sizeOf139 rfl rfl rfl rfl rfl rfl rfl ?_
    refine RL.nil (NQ.seq (CW.seq (CW.regionD (Sq.of [0, 1, 2, 3, 4, 5, 6, 7, 8, 9, 10, 11, 12, 13]) [12, 13] [13] [0, 1, 3, 4, 5, 6, 8, 9, 11] mixed (by kernel_rfl) ?_)))
    refine RL.fieldAddr fa_139_0 rfl rfl rfl rfl (RL.fieldAddr fa_117_0 rfl rfl rfl rfl (RL.loadq Tryz.isAgg24 rfl rfl rfl rfl ?_))
    refine RL.p rfl (RL.p rfl (RL.fieldAddr fa_139_0 rfl rfl rfl rfl (RL.fieldAddr fa_117_0 rfl rfl rfl rfl (RL.loadq Tryz.isAgg24 rfl rfl rfl rfl ?_))))
    refine RL.p rfl (RL.cast (d := 34) rfl hsub ?_)
    refine RL.idxAt (j := iv - p1) Tryz.runUnderlying39 Tryz.sizeOf23 rfl rfl rfl rfl rfl (by omega) (by omega) ?_
    refine RL.loadA Tryz.isAgg23 Tryz.sizeOf23 rfl rfl rfl rfl (rK _) (by rw [List.length_map, hnk]) ?_
    refine RL.buildS (skc p1 kx) Tryz.zeroValue141 pl_141 rfl rfl rfl rfl (fill_sk (z := List.replicate 32 0#8) hnk rfl rfl) (RL.alloc Tryz.zeroValue141 rfl rfl rfl rfl rfl ?_)
    intro b2
    refine RL.storeWq Tryz.sizeOf141 rfl rfl rfl rfl rfl rfl rfl ?_
    refine RL.nil (NQ.seq (CW.ok [0, 1, 2, 7, 8, 10, 11, 20, 21, 22] rfl (CW.seq (CW.region (ef := [6, 7]) (bk := [7]) (RL.p rfl (RL.loadSq Tryz.isAgg141 Tryz.sizeOf141 rfl rfl rfl rfl ?_))))))
    refine RL.lookupOk keySk Tryz.runUnderlying137 Tryz.zeroValue23 rfl rfl rfl rfl rfl (skV_good hp32 hnk) (MapAt.own (by repeat (first | exact List.Mem.head _ | apply List.Mem.tail))) ?_
    refine RL.cast (d := 41) rfl hlv ?_
    refine RL.p rfl (RL.p rfl (RL.p rfl (RL.alloc (cs := List.replicate 32 (U8 0#8)) Tryz.zeroValue23 rfl rfl rfl rfl rfl ?_)))
    intro b3
    refine RL.storeWq Tryz.sizeOf23 rfl rfl rfl rfl rfl rfl rfl ?_
    refine RL.p rfl (RL.nil (NQ.seq (CW.ok [0, 1, 2, 7, 8, 10, 11, 12, 13, 20, 21, 22] rfl (CW.seq (CW.seq (CW.rg (RL.p rfl (RL.p rfl (RL.nil (NQ.seq ?_))))))))))
    refine CW.cond rfl (fun hb => ?_) (fun hb => ?_)
    ·
      have hL2 := hL.set p1 kx
      refine CW.seq (CW.region (ef := [5]) (bk := [5]) (RL.fieldAddr fa_141_1 rfl rfl rfl rfl (RL.loadA Tryz.isAgg23 Tryz.sizeOf23 rfl rfl rfl rfl (vs := bytes kx) (Rds.cel (by repeat (first | exact List.Mem.head _ | apply List.Mem.tail)) (sk_key p1 kx)) (by rw [List.length_map, hnk]) ?_)))
      refine RL.fieldAddr fa_141_0 rfl rfl rfl rfl (RL.loadq Tryz.isAgg24 rfl rfl rfl rfl ?_)
      refine RL.callvq (tagKey_any kx p1 hnk hp32) Tryz.call33 rfl rfl rfl rfl ?_
      refine RL.storeW Tryz.sizeOf23 rfl rfl rfl rfl rfl rfl rfl (ones_map one8 _) (by repeat (first | exact Upd.here | apply Upd.there)) htg32 hkz32 ?_
      refine RL.nil (NQ.seq (CW.ok [0, 1, 2, 7, 8, 10, 11, 12, 20, 21, 22] rfl (CW.region (ef := [3]) (bk := [3]) (RL.p rfl (RL.loadSq Tryz.isAgg141 Tryz.sizeOf141 rfl rfl rfl rfl ?_)))))
      refine RL.loadSq Tryz.isAgg23 Tryz.sizeOf23 rfl rfl rfl rfl ?_
      refine RL.mapUpdate keySk Tryz.runUnderlying137 rfl rfl rfl rfl rfl rfl rfl (skV_good hp32 hnk) (by repeat (first | exact Upd.here | apply Upd.there)) ?_
      refine RL.nil (NQ.seq (CW.seq (CW.seq (CW.regionD (Sq.of [0, 1, 2, 3, 4, 5, 6, 7, 8, 9]) [6, 7] [] [1, 2, 4, 9] mixed (by kernel_rfl) ?_))))
      refine RL.loadSq Tryz.isAgg23 Tryz.sizeOf23 rfl rfl rfl rfl ?_
      refine RL.fieldAddr fa_139_1 rfl rfl rfl rfl (RL.fieldAddr fa_30_5 rfl rfl rfl rfl (RL.loadA Tryz.isAgg28 Tryz.sizeOf28 rfl rfl rfl rfl (vs := bytes y.f.tag) (Rds.cel (by repeat (first | exact List.Mem.head _ | apply List.Mem.tail)) (it_tag (((p1 : Int), p2), y))) (by rw [List.length_map, hxo.f.tag]) ?_))
      refine RL.fieldAddr fa_139_1 rfl rfl rfl rfl (RL.loadA Tryz.isAgg30 Tryz.sizeOf30 rfl rfl rfl rfl (vs := y.cells) (Rds.cel (by repeat (first | exact List.Mem.head _ | apply List.Mem.tail)) (it_frm (((p1 : Int), p2), y))) h21 ?_)
      refine RL.call (signed_any y.f (y.ob.map fun b => ⟨b, 0, none⟩) y.cp y.f.b.length hxo.f rfl (by have := hxo.b; omega)) Tryz.call34 rfl rfl rfl rfl rfl (by repeat (first | exact Pick.nil | apply Pick.take | apply Pick.leave)) (Lend.ownI (mB _ hx0) .nil) (.inl rfl) ?_
      rintro _ _ _ ⟨ob1, cap1, rfl, rfl, rfl, ho1⟩
      refine RL.buildSlice [_] Tryz.runUnderlying123 Tryz.sizeOf26 Tryz.zeroValue26 rfl rfl (by decide) (by decide) rfl rfl rfl rfl rfl rfl ?_
      intro b4
      refine RL.callv (right_any (tagK kx p1) htg y.f.tag hxo.f.tag (some ⟨b4, 0, none⟩) 1 1 [⟨ob1.map fun b => ⟨b, 0, none⟩, cap1, y.f.signed⟩] rfl (by decide) (by have := hxo.b; simp [joined, signed_len]; omega)) Tryz.call72 rfl rfl rfl rfl (Lend.allX (by repeat (first | exact List.Mem.head _ | apply List.Mem.tail)) rfl rfl (Lend.own (by repeat (first | exact List.Mem.head _ | apply List.Mem.tail)) .nil)) ?_
      refine RL.p rfl (RL.nil (NQ.seq (CW.ok [0, 1, 2, 7, 8, 10, 20, 21, 22, 63] rfl ?_)))
      refine CW.cond rfl (fun hg => ?_) (fun hg => ?_)
      ·
        have hok : okIt key iv (((p1 : Int), p2), y) = false := by
          show (y.f.tag == macTag (tagK (nextN key (iv - (p1 : Int).toNat)) (p1 : Int).toNat) y.f.signed) = false
          rw [Int.toNat_natCast, hnx]
          simpa [joined] using hg
        have hR' : relL key iv (T.take (j + 1)) = R := by rw [htk, relL_snoc, hR, hok]; rfl
        refine CW.seq (CW.region (ef := [7]) (bk := [7]) (RL.p rfl (RL.p rfl (RL.fieldAddr fa_81_4 rfl rfl rfl rfl (RL.load Tryz.isAgg3 rfl rfl rfl rfl (Rd.get (by repeat (first | exact List.Mem.head _ | apply List.Mem.tail)) hbd) ?_)))))
        refine RL.bx rfl (wrapV_i64 (by omega) (by omega)) ?_
        refine RL.p rfl (RL.fieldAddr fa_81_4 rfl rfl rfl rfl (RL.storeX (vs := [_]) (set_bad' B (z := { z with bad := z.bad + (j - R.length), rel := z.rel + R.length }) hk (n := z.bad + (j - R.length) + 1) (by omega)) Tryz.sizeOf3 rfl rfl rfl rfl rfl rfl rfl rfl (by repeat (first | exact Upd.here | apply Upd.there)) (by rw [rc_len B (z := { z with bad := z.bad + (j - R.length), rel := z.rel + R.length }) hk]; show 0 + 38 + 1 ≤ 41; decide) ?_))
        refine RL.nil (NQ.seq (CW.ok [0, 1, 2, 7, 8, 10, 20, 21, 22] rfl (CW.exit (XQ.seq (XQ.hit (NQ.seq (CW.rg (RL.bx rfl (wrapV_i64 (by omega) (by omega)) ?_))))))))
        refine RL.p rfl (RL.nil ?_)
        refine NQ.round (g := (j, L, ob, cp)) (j + 1, _, ob, cp) ⟨hlt, hL2⟩ (by show T.length - (j + 1) < T.length - j; omega) (.cons rfl (.cons rfl (.cons rfl (.cons (by dsimp only; rw [hR']; rfl) (.cons rfl (.cons rfl (.cons rfl (.cons rfl .nil)))))))) (fun w h => ?_)
        dsimp only
        rw [hR', show z.bad + (j + 1 - R.length) = z.bad + (j - R.length) + 1 by omega]
        exact h.rea (fun _ h => h) (by repeat (first | exact Rea.nil | (apply Rea.cons; (solve | (repeat (first | exact Del.here | apply Del.there))))))
      ·
        have hok : okIt key iv (((p1 : Int), p2), y) = true := by
          show (y.f.tag == macTag (tagK (nextN key (iv - (p1 : Int).toNat)) (p1 : Int).toNat) y.f.signed) = true
          rw [Int.toNat_natCast, hnx]
          simpa [joined] using hg
        have hR' : relL key iv (T.take (j + 1)) = R ++ [y] := by rw [htk, relL_snoc, hR, hok]; rfl
        refine CW.skip (NQ.seq (CW.seq (CW.region (ef := [7]) (bk := [7]) (RL.p rfl (RL.p rfl (RL.fieldAddr fa_81_5 rfl rfl rfl rfl (RL.load Tryz.isAgg3 rfl rfl rfl rfl (Rd.get (by repeat (first | exact List.Mem.head _ | apply List.Mem.tail)) hrd) ?_)))))))
        refine RL.bx rfl (wrapV_i64 (by omega) (by omega)) ?_
        refine RL.p rfl (RL.fieldAddr fa_81_5 rfl rfl rfl rfl (RL.storeX (vs := [_]) (set_rel' B (z := { z with bad := z.bad + (j - R.length), rel := z.rel + R.length }) hk (n := z.rel + R.length + 1) (by omega)) Tryz.sizeOf3 rfl rfl rfl rfl rfl rfl rfl rfl (by repeat (first | exact Upd.here | apply Upd.there)) (by rw [rc_len B (z := { z with bad := z.bad + (j - R.length), rel := z.rel + R.length }) hk]; show 0 + 39 + 1 ≤ 41; decide) ?_))
        refine RL.nil (NQ.seq (CW.ok [0, 1, 2, 7, 8, 10, 20, 21, 22] rfl (CW.region (ef := [3, 4]) (bk := [4]) (RL.p rfl (RL.fieldAddr fa_139_1 rfl rfl rfl rfl (RL.loadA Tryz.isAgg30 Tryz.sizeOf30 rfl rfl rfl rfl (vs := y.cells) (Rds.cel (by repeat (first | exact List.Mem.head _ | apply List.Mem.tail)) (it_frm (((p1 : Int), p2), y))) h21 ?_))))))
        refine RL.buildSlice y.cells Tryz.runUnderlying51 Tryz.sizeOf30 Tryz.zeroValue30 rfl rfl (by decide) (by decide) rfl rfl rfl rfl rfl (fill_one21 h21 rfl) ?_
        intro b5
        refine RL.appendA el_51 rfl rfl rfl rfl rfl rfl rfl (by first | exact ⟨(.take (Pick.none _)), rfl⟩ | exact ⟨(.leave (.take (Pick.none _))), rfl⟩ | exact ⟨(.leave (.leave (.take (Pick.none _)))), rfl⟩ | exact ⟨(.leave (.leave (.leave (.take (Pick.none _))))), rfl⟩ | exact ⟨(.leave (.leave (.leave (.leave (.take (Pick.none _)))))), rfl⟩ | exact ⟨(.leave (.leave (.leave (.leave (.leave (.take (Pick.none _))))))), rfl⟩ | exact ⟨(.leave (.leave (.leave (.leave (.leave (.leave (.take (Pick.none _)))))))), rfl⟩ | exact ⟨(.leave (.leave (.leave (.leave (.leave (.leave (.leave (.take (Pick.none _))))))))), rfl⟩ | exact ⟨(.leave (.leave (.leave (.leave (.leave (.leave (.leave (.leave (.take (Pick.none _)))))))))), rfl⟩ | exact ⟨(.leave (.leave (.leave (.leave (.leave (.leave (.leave (.leave (.leave (.take (Pick.none _))))))))))), rfl⟩) (Src.cel (List.Mem.head _) h21) (fun u hu => ones_spec (ones_fro y) u hu) (by first | omega | (simp only [maxLen]; omega)) (by first | omega | (simp only [maxLen]; omega)) ?_
        intro ob2 cap2 ho2
        refine RL.p rfl (RL.nil (NQ.block (NQ.seq (CW.ok [0, 1, 2, 7, 8, 20, 21, 22] rfl (CW.rg (RL.bx rfl (wrapV_i64 (by omega) (by omega)) ?_))))))
        refine RL.p rfl (RL.nil ?_)
        refine NQ.round (g := (j, L, ob, cp)) (j + 1, _, ob2, cap2) ⟨hlt, hL2⟩ (by show T.length - (j + 1) < T.length - j; omega) (.cons rfl (.cons rfl (.cons rfl (.cons (by dsimp only; rw [hR', List.length_append]; rfl) (.cons rfl (.cons rfl (.cons rfl (.cons rfl .nil)))))))) (fun w h => ?_)
        dsimp only
        rw [hR', List.length_append, List.flatMap_append, show z.bad + (j + 1 - (R.length + [y].length)) = z.bad + (j - R.length) by simp, show [y].flatMap FrO.cells = y.cells by simp]
        exact h.rea (fun _ h => h) (by repeat (first | exact Rea.nil | (apply Rea.cons; (solve | (repeat (first | exact Del.here | apply Del.there))))))
    ·
      have hL2 := hL
      have hb' : bz = true := by simpa using hb
      obtain rfl := hbz hb'
      refine CW.skip (NQ.seq (CW.seq (CW.seq (CW.regionD (Sq.of [0, 1, 2, 3, 4, 5, 6, 7, 8, 9]) [6, 7] [] [1, 2, 4, 9] mixed (by kernel_rfl) ?_))))
      refine RL.loadSq Tryz.isAgg23 Tryz.sizeOf23 rfl rfl rfl rfl ?_
      refine RL.fieldAddr fa_139_1 rfl rfl rfl rfl (RL.fieldAddr fa_30_5 rfl rfl rfl rfl (RL.loadA Tryz.isAgg28 Tryz.sizeOf28 rfl rfl rfl rfl (vs := bytes y.f.tag) (Rds.cel (by repeat (first | exact List.Mem.head _ | apply List.Mem.tail)) (it_tag (((p1 : Int), p2), y))) (by rw [List.length_map, hxo.f.tag]) ?_))
      refine RL.fieldAddr fa_139_1 rfl rfl rfl rfl (RL.loadA Tryz.isAgg30 Tryz.sizeOf30 rfl rfl rfl rfl (vs := y.cells) (Rds.cel (by repeat (first | exact List.Mem.head _ | apply List.Mem.tail)) (it_frm (((p1 : Int), p2), y))) h21 ?_)
      refine RL.call (signed_any y.f (y.ob.map fun b => ⟨b, 0, none⟩) y.cp y.f.b.length hxo.f rfl (by have := hxo.b; omega)) Tryz.call34 rfl rfl rfl rfl rfl (by repeat (first | exact Pick.nil | apply Pick.take | apply Pick.leave)) (Lend.ownI (mB _ hx0) .nil) (.inl rfl) ?_
      rintro _ _ _ ⟨ob1, cap1, rfl, rfl, rfl, ho1⟩
      refine RL.buildSlice [_] Tryz.runUnderlying123 Tryz.sizeOf26 Tryz.zeroValue26 rfl rfl (by decide) (by decide) rfl rfl rfl rfl rfl rfl ?_
      intro b4
      refine RL.callv (right_any (tagK kx p1) htg y.f.tag hxo.f.tag (some ⟨b4, 0, none⟩) 1 1 [⟨ob1.map fun b => ⟨b, 0, none⟩, cap1, y.f.signed⟩] rfl (by decide) (by have := hxo.b; simp [joined, signed_len]; omega)) Tryz.call72 rfl rfl rfl rfl (Lend.allX (by repeat (first | exact List.Mem.head _ | apply List.Mem.tail)) rfl rfl (Lend.own (by repeat (first | exact List.Mem.head _ | apply List.Mem.tail)) .nil)) ?_
      refine RL.p rfl (RL.nil (NQ.seq (CW.ok [0, 1, 2, 7, 8, 10, 20, 21, 22, 63] rfl ?_)))
      refine CW.cond rfl (fun hg => ?_) (fun hg => ?_)
      ·
        have hok : okIt key iv (((p1 : Int), p2), y) = false := by
          show (y.f.tag == macTag (tagK (nextN key (iv - (p1 : Int).toNat)) (p1 : Int).toNat) y.f.signed) = false
          rw [Int.toNat_natCast, hnx]
          simpa [joined] using hg
        have hR' : relL key iv (T.take (j + 1)) = R := by rw [htk, relL_snoc, hR, hok]; rfl
        refine CW.seq (CW.region (ef := [7]) (bk := [7]) (RL.p rfl (RL.p rfl (RL.fieldAddr fa_81_4 rfl rfl rfl rfl (RL.load Tryz.isAgg3 rfl rfl rfl rfl (Rd.get (by repeat (first | exact List.Mem.head _ | apply List.Mem.tail)) hbd) ?_)))))
        refine RL.bx rfl (wrapV_i64 (by omega) (by omega)) ?_
        refine RL.p rfl (RL.fieldAddr fa_81_4 rfl rfl rfl rfl (RL.storeX (vs := [_]) (set_bad' B (z := { z with bad := z.bad + (j - R.length), rel := z.rel + R.length }) hk (n := z.bad + (j - R.length) + 1) (by omega)) Tryz.sizeOf3 rfl rfl rfl rfl rfl rfl rfl rfl (by repeat (first | exact Upd.here | apply Upd.there)) (by rw [rc_len B (z := { z with bad := z.bad + (j - R.length), rel := z.rel + R.length }) hk]; show 0 + 38 + 1 ≤ 41; decide) ?_))
        refine RL.nil (NQ.seq (CW.ok [0, 1, 2, 7, 8, 10, 20, 21, 22] rfl (CW.exit (XQ.seq (XQ.hit (NQ.seq (CW.rg (RL.bx rfl (wrapV_i64 (by omega) (by omega)) ?_))))))))
        refine RL.p rfl (RL.nil ?_)
        refine NQ.round (g := (j, L, ob, cp)) (j + 1, _, ob, cp) ⟨hlt, hL2⟩ (by show T.length - (j + 1) < T.length - j; omega) (.cons rfl (.cons rfl (.cons rfl (.cons (by dsimp only; rw [hR']; rfl) (.cons rfl (.cons rfl (.cons rfl (.cons rfl .nil)))))))) (fun w h => ?_)
        dsimp only
        rw [hR', show z.bad + (j + 1 - R.length) = z.bad + (j - R.length) + 1 by omega]
        exact h.rea (fun _ h => h) (by repeat (first | exact Rea.nil | (apply Rea.cons; (solve | (repeat (first | exact Del.here | apply Del.there))))))
      ·
        have hok : okIt key iv (((p1 : Int), p2), y) = true := by
          show (y.f.tag == macTag (tagK (nextN key (iv - (p1 : Int).toNat)) (p1 : Int).toNat) y.f.signed) = true
          rw [Int.toNat_natCast, hnx]
          simpa [joined] using hg
        have hR' : relL key iv (T.take (j + 1)) = R ++ [y] := by rw [htk, relL_snoc, hR, hok]; rfl
        refine CW.skip (NQ.seq (CW.seq (CW.region (ef := [7]) (bk := [7]) (RL.p rfl (RL.p rfl (RL.fieldAddr fa_81_5 rfl rfl rfl rfl (RL.load Tryz.isAgg3 rfl rfl rfl rfl (Rd.get (by repeat (first | exact List.Mem.head _ | apply List.Mem.tail)) hrd) ?_)))))))
        refine RL.bx rfl (wrapV_i64 (by omega) (by omega)) ?_
        refine RL.p rfl (RL.fieldAddr fa_81_5 rfl rfl rfl rfl (RL.storeX (vs := [_]) (set_rel' B (z := { z with bad := z.bad + (j - R.length), rel := z.rel + R.length }) hk (n := z.rel + R.length + 1) (by omega)) Tryz.sizeOf3 rfl rfl rfl rfl rfl rfl rfl rfl (by repeat (first | exact Upd.here | apply Upd.there)) (by rw [rc_len B (z := { z with bad := z.bad + (j - R.length), rel := z.rel + R.length }) hk]; show 0 + 39 + 1 ≤ 41; decide) ?_))
        refine RL.nil (NQ.seq (CW.ok [0, 1, 2, 7, 8, 10, 20, 21, 22] rfl (CW.region (ef := [3, 4]) (bk := [4]) (RL.p rfl (RL.fieldAddr fa_139_1 rfl rfl rfl rfl (RL.loadA Tryz.isAgg30 Tryz.sizeOf30 rfl rfl rfl rfl (vs := y.cells) (Rds.cel (by repeat (first | exact List.Mem.head _ | apply List.Mem.tail)) (it_frm (((p1 : Int), p2), y))) h21 ?_))))))
        refine RL.buildSlice y.cells Tryz.runUnderlying51 Tryz.sizeOf30 Tryz.zeroValue30 rfl rfl (by decide) (by decide) rfl rfl rfl rfl rfl (fill_one21 h21 rfl) ?_
        intro b5
        refine RL.appendA el_51 rfl rfl rfl rfl rfl rfl rfl (by first | exact ⟨(.take (Pick.none _)), rfl⟩ | exact ⟨(.leave (.take (Pick.none _))), rfl⟩ | exact ⟨(.leave (.leave (.take (Pick.none _)))), rfl⟩ | exact ⟨(.leave (.leave (.leave (.take (Pick.none _))))), rfl⟩ | exact ⟨(.leave (.leave (.leave (.leave (.take (Pick.none _)))))), rfl⟩ | exact ⟨(.leave (.leave (.leave (.leave (.leave (.take (Pick.none _))))))), rfl⟩ | exact ⟨(.leave (.leave (.leave (.leave (.leave (.leave (.take (Pick.none _)))))))), rfl⟩ | exact ⟨(.leave (.leave (.leave (.leave (.leave (.leave (.leave (.take (Pick.none _))))))))), rfl⟩ | exact ⟨(.leave (.leave (.leave (.leave (.leave (.leave (.leave (.leave (.take (Pick.none _)))))))))), rfl⟩ | exact ⟨(.leave (.leave (.leave (.leave (.leave (.leave (.leave (.leave (.leave (.take (Pick.none _))))))))))), rfl⟩) (Src.cel (List.Mem.head _) h21) (fun u hu => ones_spec (ones_fro y) u hu) (by first | omega | (simp only [maxLen]; omega)) (by first | omega | (simp only [maxLen]; omega)) ?_
        intro ob2 cap2 ho2
        refine RL.p rfl (RL.nil (NQ.block (NQ.seq (CW.ok [0, 1, 2, 7, 8, 20, 21, 22] rfl (CW.rg (RL.bx rfl (wrapV_i64 (by omega) (by omega)) ?_))))))
        refine RL.p rfl (RL.nil ?_)
        refine NQ.round (g := (j, L, ob, cp)) (j + 1, _, ob2, cap2) ⟨hlt, hL2⟩ (by show T.length - (j + 1) < T.length - j; omega) (.cons rfl (.cons rfl (.cons rfl (.cons (by dsimp only; rw [hR', List.length_append]; rfl) (.cons rfl (.cons rfl (.cons rfl (.cons rfl .nil)))))))) (fun w h => ?_)
        dsimp only
        rw [hR', List.length_append, List.flatMap_append, show z.bad + (j + 1 - (R.length + [y].length)) = z.bad + (j - R.length) by simp, show [y].flatMap FrO.cells = y.cells by simp]
        exact h.rea (fun _ h => h) (by repeat (first | exact Rea.nil | (apply Rea.cons; (solve | (repeat (first | exact Del.here | apply Del.there))))))
  ·
    refine CW.exit (XQ.seq (XQ.seq (XQ.hit (NQ.seq (CW.ok [7] rfl (CW.seq (CW.rg (RL.p rfl (RL.p rfl (RL.nil (NQ.seq (CW.ret ?_))))))))))))
    have hjT : j = T.length := by simp at hlt; omega
    subst hjT
    rw [List.take_length] at hR
    subst hR
    exact RQ.post (res1 rfl rfl) (.keep (.drop (.keep (.keep (.keep .nil))))) ⟨T, c', ob, cp, hT, rfl, rfl, rfl⟩
end Go.Proofs.YtbdnebedmdoehaaGreat

namespace Go.Proofs.YtbdnebedmdoehaaGreat
open Go.PK
theorem Lend.keyI {I F J : List It} {kb cap nn i : Nat} {e : TypeId} {R : List (List B8)} {x : List B8} (hm : own (some kb) cap e 32 nn (R.flatMap bytes) ∈ I) (hx : R[i]? = some x) (hf : ∀ y ∈ R, (bytes y).length = 32) (hn : nn ≠ 0) (h : Lend I F J) : Lend I F (sls (some ⟨kb, 0 + i * 32, none⟩) 1 32 (bytes x) :: J) :=
  .of (fun w hw => ⟨by rw [hf x (List.mem_of_getElem? hx)], fun _ => (own_sls (hw.i _ hm)).2.1 hn, fun j u hj => own_rdsI (H := F) hm hx hf w hw j u hj⟩) (fun c hc => .inl (mem_bss.2 ⟨_, hm, by simp_all [sls, own]⟩)) h
def disE (z : RSt) (iv : Nat) (key : List B8) : Int := if iv ≤ z.iv then 6 else if 512 < iv - z.iv then 3 else if nextN key (iv - z.iv) = z.k then 0 else 211
def afterD (z : RSt) (iv : Nat) (key : List B8) (T c' : Bq) : RSt := ⟨iv, key, z.bad + (T.length - (relL key iv T).length), z.rel + (relL key iv T).length, c', bump 0 z.m⟩
inductive DisO (z : RSt) (iv : Nat) (key : List B8) : Int → Bq → RSt → Prop
  | no {e : Int} (h : disE z iv key = e) (h0 : e ≠ 0) : DisO z iv key e [] { z with m := bump e z.m }
  | yes {T c' : Bq} (h : disE z iv key = 0) (hT : TakeO z.c iv T c') : DisO z iv key 0 T (afterD z iv key T c')
def DisR (B : RBk) (z : RSt) (iv : Nat) (key : List B8) : Value → List It → List It → Prop := fun v I' H' => ∃ e T z' ob cp, DisO z iv key e T z' ∧ v = .tuple #[slO ob (relL key iv T).length cp, .int .i64 e] ∧ I' = [] ∧
  H' = [own ob cp 30 21 (relL key iv T).length ((relL key iv T).flatMap FrO.cells), recI B z', tmI B z', bufI B.q B.r, mapQ B.r z'.c]
theorem tdis_any (B : RBk) (z : RSt) (hz : z.Ok) (iv : Nat) (hiv : iv < 4294967296) (key : List B8) (hkey : key.length = 32) (hgt : ∀ x ∈ z.c, (z.iv : Int) < x.1.1) (I : List It) (hbo : ∀ x ∈ z.c, bodyO x.2 ∈ I) :
    Spc Tryz.prog 18 #[.pointer (some ⟨B.b, 0, none⟩), .int .u32 (iv : Int), .agg (bytes key).toArray] I [recI B z, tmI B z, bufI B.q B.r, mapQ B.r z.c] (DisR B z iv key) := by
  have hk := hz.k
  have hziv := hz.iv
  have hk32 : (bytes key).length = 32 := by rw [List.length_map, hkey]
  refine Spc.enter Tryz.func18 rfl rfl rfl (fun w0 hw0 => ?_)
  refine CW.seq (CW.region (ef := [0]) (bk := []) (RL.box rfl rfl rfl rfl rfl rfl ?_))
  intro b1
  refine RL.p rfl (RL.p rfl (RL.nil (NQ.seq ?_)))
  refine CW.scope (γ := Int) 0 (fun e => disE z iv key = e ∧ e ≠ 0) (fun e => [(0, .pointer (some ⟨B.b, 0, none⟩)), (10, .int .i64 e)]) (fun _ => I) (fun _ => [recI B z, tmI B z, bufI B.q B.r, mapQ B.r z.c]) rfl ?_ (fun e he => ?_)
  ·
    refine CW.seq (CW.rg (RL.p rfl (RL.nil (NQ.seq (CW.seq (CW.rg (RL.p rfl (RL.nil (NQ.seq (CW.seq (CW.seq (CW.rg (RL.p rfl ?_)))))))))))))
    refine RL.callv (tis_yes B z hk) Tryz.call42 rfl rfl rfl rfl (Lend.inH (by repeat (first | exact List.Mem.head _ | apply List.Mem.tail)) .nil) ?_
    refine RL.p rfl (RL.nil (NQ.seq (CW.condF rfl (rfl) (CW.skip (NQ.seq (CW.ok [0, 1, 5] rfl (CW.seq (CW.rg (RL.p rfl (RL.nil (NQ.seq (CW.seq (CW.seq ?_)))))))))))))
    refine CW.rg (RL.p rfl (RL.p rfl (RL.p rfl (RL.fieldAddr fa_81_1 rfl rfl rfl rfl (RL.load Tryz.isAgg24 rfl rfl rfl rfl (Rd.get (by repeat (first | exact List.Mem.head _ | apply List.Mem.tail)) (rc_iv B z)) ?_)))))
    refine RL.p rfl (RL.nil (NQ.seq ?_))
    refine CW.cond rfl (fun h1 => ?_) (fun h1 => ?_)
    ·
      refine CW.goto ?_
      refine GQ.seq ?_
      have h1' : iv ≤ z.iv := by simp at h1; omega
      exact GQ.at 6 ⟨if_pos h1', by decide⟩ (.cons rfl (.cons rfl .nil)) (fun w h => h.rea (fun _ h => h) (by repeat (first | exact Rea.nil | (apply Rea.cons; (solve | (repeat (first | exact Del.here | apply Del.there)))))))
    ·
      have h1' : ¬ iv ≤ z.iv := by simp at h1; omega
      have hsub : Value.int .u32 (IntKind.u32.wrap ((iv : Int) - (z.iv : Int))) = .int .u32 ((iv - z.iv : Nat) : Int) := by
        rw [show (iv : Int) - (z.iv : Int) = ((iv - z.iv : Nat) : Int) by omega]
        simp [IntKind.wrap, IntKind.bits, IntKind.signed]; omega
      have hcv : Value.int .i64 (IntKind.i64.wrap ((iv - z.iv : Nat) : Int)) = .int .i64 ((iv - z.iv : Nat) : Int) := wrapV_i64 (by omega) (by omega)
      generalize hd : iv - z.iv = d at *
      refine CW.skip (NQ.seq (CW.ok [0, 1, 5, 10] rfl (CW.seq (CW.rg (RL.p rfl (RL.nil (NQ.seq (CW.seq (CW.seq (CW.rg (RL.p rfl (RL.p rfl (RL.p rfl ?_)))))))))))))
      refine RL.fieldAddr fa_81_1 rfl rfl rfl rfl (RL.load Tryz.isAgg24 rfl rfl rfl rfl (Rd.get (by repeat (first | exact List.Mem.head _ | apply List.Mem.tail)) (rc_iv B z)) ?_)
      refine RL.p rfl (RL.cast (d := 25) rfl hsub ?_)
      refine RL.p rfl (RL.nil (NQ.seq (CW.ok [0, 1, 5, 10, 26] rfl ?_)))
      refine CW.cond rfl (fun h2 => ?_) (fun h2 => ?_)
      ·
        refine CW.goto ?_
        refine GQ.seq ?_
        have h2' : 512 < iv - z.iv := by simp at h2; omega
        exact GQ.at 3 ⟨by rw [disE, if_neg h1', if_pos h2'], by decide⟩ (.cons rfl (.cons rfl .nil)) (fun w h => h.rea (fun _ h => h) (by repeat (first | exact Rea.nil | (apply Rea.cons; (solve | (repeat (first | exact Del.here | apply Del.there)))))))
      ·
        have h2' : ¬ 512 < iv - z.iv := by simp at h2; omega
        refine CW.skip (NQ.seq (CW.seq (CW.regionD (Sq.of [0, 1, 2, 3, 4, 5, 6, 7, 8, 9, 10, 11, 12]) [8] [8] [1, 2, 3, 4, 6, 7, 9, 10, 11, 12] mixed (by kernel_rfl) ?_)))
        refine RL.loadSq Tryz.isAgg23 Tryz.sizeOf23 rfl rfl rfl rfl ?_
        refine RL.p rfl (RL.p rfl (RL.p rfl (RL.fieldAddr fa_81_1 rfl rfl rfl rfl (RL.load Tryz.isAgg24 rfl rfl rfl rfl (Rd.get (by repeat (first | exact List.Mem.head _ | apply List.Mem.tail)) (rc_iv B z)) ?_))))
        refine RL.p rfl (RL.cast (d := 34) rfl hsub ?_)
        refine RL.conv Tryz.runUnderlying24 Tryz.runUnderlying3 rfl rfl rfl rfl (RL.cast (d := 35) rfl hcv ?_)
        refine RL.call (all_ok key hkey d (by omega)) Tryz.call45 rfl rfl rfl rfl rfl (by repeat (first | exact Pick.nil | apply Pick.take | apply Pick.leave)) .nil (.inr rfl) ?_
        rintro _ _ _ ⟨kb, kc, rfl, rfl, rfl⟩
        refine RL.p rfl (RL.p rfl (RL.p rfl (RL.p rfl (RL.nil (NQ.seq (CW.ok [0, 1, 5, 8, 10] rfl (CW.seq (CW.freezeP (A := [_, _]) (B := [_, _, _, _]) (.take (.take (.leave (.leave (.leave (.leave .nil)))))) rfl ?_))))))))
        refine CW.genI (fun J hJ => ?_)
        have mK : own (some kb) kc 23 32 (d + 1) ((chainL key (d + 1)).flatMap bytes) ∈ J := hJ _ (List.Mem.head _)
        have mC : cel b1 (bytes key) 23 ∈ J := hJ _ (by simp)
        have mI : ∀ x ∈ I, x ∈ J := fun x hx => hJ x (by simp [hx])
        clear hJ
        have hKl := chainL_len key (d + 1)
        have hK32 := flatK_len (chainL_all hkey (d + 1))
        have hKd := chainL_get key (show d < d + 1 by omega)
        have hnk := nextN_len hkey d
        generalize hkx : nextN key d = kx at *
        refine CW.rg (RL.p rfl (RL.nil (NQ.seq (CW.seq (CW.seq (CW.regionD (Sq.of [0, 1, 2, 3, 4, 5, 6, 7, 8, 9, 10, 11]) [] [] [0, 1, 2, 3, 4, 5, 6, 7, 8, 9, 11] mixed (by kernel_rfl) ?_))))))
        refine RL.p rfl (RL.p rfl (RL.lenS Tryz.runUnderlying39 rfl rfl rfl rfl (RL.bx rfl (wrapV_i64 (by omega) (by omega)) ?_)))
        refine RL.idxAt (j := d) Tryz.runUnderlying39 Tryz.sizeOf23 rfl rfl rfl rfl rfl (by omega) (by omega) ?_
        refine RL.sliceAll Tryz.runUnderlying23 Tryz.sizeOf5 (by decide) rfl rfl rfl rfl ?_
        refine RL.p rfl (RL.p rfl (RL.fieldAddr fa_81_2 rfl rfl rfl rfl (RL.sliceAll Tryz.runUnderlying23 Tryz.sizeOf5 (by decide) rfl rfl rfl rfl ?_)))
        refine RL.callv (equal_any (some ⟨kb, 0 + d * 32, none⟩) (some ⟨B.b, 0 + 5, none⟩) 32 32 32 32 kx z.k hnk hk (by decide)) Tryz.call46 rfl rfl rfl rfl (Lend.keyI mK hKd hK32 (by omega) (Lend.cel (by repeat (first | exact List.Mem.head _ | apply List.Mem.tail)) (by rw [List.length_map, hk]) (rc_k B z) .nil)) ?_
        refine RL.p rfl (RL.nil (NQ.seq (CW.ok [0, 1, 5, 8, 10, 50] rfl ?_)))
        refine CW.cond rfl (fun h3 => ?_) (fun h3 => ?_)
        ·
          refine CW.goto ?_
          refine GQ.seq ?_
          have h3' : ¬ nextN key (iv - z.iv) = z.k := by rw [hd, hkx]; simpa using h3
          exact GQ.at 211 ⟨by rw [disE, if_neg h1', if_neg h2', if_neg h3'], by decide⟩ (.cons rfl (.cons rfl .nil)) (fun w h => h.rea mI (by repeat (first | exact Rea.nil | (apply Rea.cons; (solve | (repeat (first | exact Del.here | apply Del.there)))))))
        ·
          have h3' : nextN key (iv - z.iv) = z.k := by rw [hd, hkx]; simpa using h3
          have h0 : disE z iv key = 0 := by rw [disE, if_neg h1', if_neg h2', if_pos h3']
          refine CW.skip (NQ.seq (CW.seq (CW.region (ef := [3]) (bk := [3]) (RL.p rfl (RL.p rfl (RL.p rfl (RL.call (trel_any B z hz iv hiv key hkey kb kc (d + 1) (by omega) hgt J mK (fun x hx => mI _ (hbo x hx))) Tryz.call47 rfl rfl rfl rfl rfl (by repeat (first | exact Pick.nil | apply Pick.take | apply Pick.leave)) (Lend.many (fun _ h => h)) (.inr rfl) ?_)))))))
          rintro _ _ _ ⟨T, c', ob, cp, hT, rfl, rfl, rfl⟩
          have hb1 : (bytes z.k).length = 32 := by rw [List.length_map, hk]
          refine RL.p rfl (RL.nil (NQ.seq (CW.ok [0, 1, 5, 9, 10] rfl (CW.seq ?_))))
          refine CW.genI (fun J2 hJ2 => ?_)
          have rC : RdsN J2 ⟨b1, 0, none⟩ 32 (bytes key) := ⟨fun _ => Rds.allI (hJ2 (cel b1 (bytes key) 23) (by simp [mC])), hk32⟩
          clear hJ2
          refine CW.regionD (Sq.of [0, 1, 2, 3, 4, 5, 6, 7, 8, 9]) [6, 9] [6, 9] [0, 1, 2, 3, 4, 5, 7, 8] mixed (by kernel_rfl) ?_
          refine RL.p rfl (RL.p rfl (RL.p rfl (RL.loadSTq Tryz.isAgg23 Tryz.sizeOf23 rfl rfl rfl rfl ?_)))
          refine RL.p rfl (RL.fieldAddr fa_81_1 rfl rfl rfl rfl (RL.storeX (vs := [_]) (set_iv B { z with bad := z.bad + (T.length - (relL key iv T).length), rel := z.rel + (relL key iv T).length } iv) Tryz.sizeOf24 rfl rfl rfl rfl rfl rfl rfl rfl (by repeat (first | exact Upd.here | apply Upd.there)) (by rw [rc_len B (z := { z with bad := z.bad + (T.length - (relL key iv T).length), rel := z.rel + (relL key iv T).length }) hk]; show 0 + 4 + 1 ≤ 41; decide) ?_))
          refine RL.p rfl (RL.fieldAddr fa_81_2 rfl rfl rfl rfl (RL.storeSeg (vs := bytes key) [.int .i64 B.s.st, .int .i64 B.s.ln, .int .i64 B.s.lg, .int .i64 B.s.of, .int .u32 (iv : Int)] (bytes z.k) [.pointer (some ⟨B.q, 0, none⟩), .int .i64 ((z.bad + (T.length - (relL key iv T).length) : Nat) : Int), .int .i64 ((z.rel + (relL key iv T).length : Nat) : Int), .map (some B.mt)] Tryz.sizeOf23 rfl rfl rfl rfl rfl rfl rfl (ones_map one8 _) rfl rfl rfl hb1 hk32 (by repeat (first | exact Upd.here | apply Upd.there)) ?_))
          refine RL.nil (NQ.seq (CW.ok [0, 9, 10] rfl (CW.seq (CW.seq (CW.region (ef := [2]) (bk := [2]) (RL.p rfl (RL.p rfl (RL.call (tell_any B ⟨iv, key, z.bad + (T.length - (relL key iv T).length), z.rel + (relL key iv T).length, c', z.m⟩ hkey hz.m 0) Tryz.call43 rfl rfl rfl rfl rfl (by repeat (first | exact Pick.nil | apply Pick.take | apply Pick.leave)) (Lend.inH (by repeat (first | exact List.Mem.head _ | apply List.Mem.tail)) .nil) (.inr rfl) ?_))))))))
          rintro _ _ _ ⟨rfl, rfl, rfl⟩
          refine RL.p rfl (RL.p rfl (RL.nil (NQ.seq (CW.ret (RQ.seq (RQ.jump (RQ.rea (fun _ h => h) (H' := [own ob cp 30 21 (relL key iv T).length ((relL key iv T).flatMap FrO.cells), recI B (afterD z iv key T c'), tmI B (afterD z iv key T c'), bufI B.q B.r, mapQ B.r c']) (by repeat (first | exact Rea.nil | (apply Rea.cons; (solve | (repeat (first | exact Del.here | apply Del.there)))))) ?_)))))))
          exact RQ.post (res2 rfl rfl rfl) (.keep (.keep (.keep (.keep (.keep .nil))))) ⟨0, T, _, ob, cp, .yes h0 hT, rfl, rfl, rfl⟩
  ·
    refine CW.ownNone (e := 30) 21 (CW.seq (CW.skip (NQ.seq (CW.seq (CW.region (ef := [2]) (bk := [2]) (RL.p rfl (RL.p rfl (RL.call (tell_any B z hz.k hz.m e) Tryz.call43 rfl rfl rfl rfl rfl (by repeat (first | exact Pick.nil | apply Pick.take | apply Pick.leave)) (Lend.inH (by repeat (first | exact List.Mem.head _ | apply List.Mem.tail)) .nil) (.inr rfl) ?_))))))))
    rintro _ _ _ ⟨rfl, rfl, rfl⟩
    refine RL.p rfl (RL.p rfl (RL.nil (NQ.seq (CW.ret (RQ.jump (RQ.rea (fun _ h => h) (H' := [own none 0 30 21 0 [], recI B z, tmI B { z with m := bump e z.m }, bufI B.q B.r, mapQ B.r z.c]) (by repeat (first | exact Rea.nil | (apply Rea.cons; (solve | (repeat (first | exact Del.here | apply Del.there)))))) ?_))))))
    exact RQ.post (res2 rfl rfl rfl) (.keep (.keep (.keep (.keep (.keep .nil))))) ⟨e, [], _, none, 0, .no he.1 he.2, rfl, rfl, rfl⟩
end Go.Proofs.YtbdnebedmdoehaaGreat
