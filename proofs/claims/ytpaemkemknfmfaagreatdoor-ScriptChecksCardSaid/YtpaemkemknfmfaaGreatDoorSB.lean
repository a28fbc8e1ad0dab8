import Derived.Test.YtpaemkemknfmfaaGreatDoorSA
import Derived.Test.YtpaemkemknfmfaaGreatDoorBdP
set_option linter.unusedVariables false
set_option linter.unusedSimpArgs false
/-
  ES, part 4: blocks turned and one come; a Builder's text.
-/
namespace Go.PK
section
variable {P : Program} {θ : Vl} {h h' hb : Heap} {w w' : World} {v : AV} {u : Value}
theorem aft_come (ids : List Nat) (id : Nat) (b : Blk) (p : Nat × Nat) (hm : Mem θ h w) (h0 : h.get id = none) (hid : h'.get id = some b) (hg : ∀ j, j ∉ ids → j ≠ id → h'.get j = h.get j)
    (ht : ∀ j ∈ ids, hb.get j = none ∧ ∃ c c', h.get j = some c ∧ h'.get j = some c' ∧ (itA (upd θ id p) j c').A w' ∧ (∀ x ∈ (itA (upd θ id p) j c').bs, x ∈ (itA θ j c).bs ∧ x ∉ (itA (upd θ id p) id b).bs) ∧ ∀ x ∈ c'.vals, x.Wf (AH (upd θ id p) h'))
    (hk : KeepP (fun x => ∃ j ∈ ids, ∃ c, h.get j = some c ∧ x ∈ (itA θ j c).bs) w w') (hA : (itA (upd θ id p) id b).A w')
    (hbs : ∀ x ∈ (itA (upd θ id p) id b).bs, w.heap.size ≤ x ∨ ∃ j ∈ ids, ∃ c, h.get j = some c ∧ x ∈ (itA θ j c).bs)
    (hv : ∀ x ∈ b.vals, x.Wf (AH (upd θ id p) h')) (hwf : v.Wf (AH (upd θ id p) h')) (hu : u = v.dec (upd θ id p)) : Aft θ h hb w v h' u w' (upd θ id p) := by
  have ne : ∀ k c, h.get k = some c → k ≠ id := fun k c hk e => by subst e; rw [hk] at h0; cases h0
  have hx : Ext θ h (upd θ id p) h' := ⟨fun k hk => by
    obtain ⟨c, hc⟩ := Option.isSome_iff_exists.1 hk
    refine ⟨upd_ne (ne k c hc), ?_⟩
    by_cases e : k ∈ ids
    · obtain ⟨-, c, c', -, h2, -⟩ := ht k e
      rw [h2]; rfl
    · rw [hg k e (ne k c hc)]; exact hk⟩
  have it : ∀ k c, h.get k = some c → itA (upd θ id p) k c = itA θ k c := fun k c hk => itA_ext hx.th (upd_ne (ne k c hk)) (hm.wf k c hk)
  have old : ∀ k c, h'.get k = some c → k ≠ id → ∃ c0, h.get k = some c0 ∧ (∀ x ∈ (itA (upd θ id p) k c).bs, x ∈ (itA θ k c0).bs ∧ x ∉ (itA (upd θ id p) id b).bs) := fun k c hk hn => by
    by_cases e : k ∈ ids
    · obtain ⟨-, c1, c', h1, h2, -, h4, -⟩ := ht k e
      rw [h2] at hk; cases hk
      exact ⟨c1, h1, h4⟩
    · rw [hg k e hn] at hk
      refine ⟨c, hk, fun x hx' => ?_⟩
      rw [it k c hk] at hx'
      refine ⟨hx', fun hx2 => ?_⟩
      rcases hbs x hx2 with h | ⟨j, hj, c1, h1, h2⟩
      · have := hm.lt hk x hx'; omega
      · exact hm.dj k c j c1 hk h1 (fun e' => e (e' ▸ hj)) x hx' h2
  refine ⟨hu, hx, hk.mono (fun x _ ⟨j, hj, c, h1, h2⟩ => ⟨j, c, (ht j hj).1, h1, h2⟩), ⟨fun k c hk' => ?_, fun k c hk' => ?_, fun k c k' c' hk1 hk2 hne x hx1 hx2 => ?_⟩, hwf, fun x ⟨k, c, g1, g2, g3⟩ hlt => ?_⟩
  · by_cases e0 : k = id
    · subst e0; rw [hid] at hk'; cases hk'; exact hA
    · by_cases e : k ∈ ids
      · obtain ⟨-, c1, c', h1, h2, h3, -⟩ := ht k e
        rw [h2] at hk'; cases hk'; exact h3
      · rw [hg k e e0] at hk'
        have hA := hm.ok k c hk'
        rw [it k c hk']
        refine (itA θ k c).fr w w' (fun x hx => ?_) hA
        refine hk.block x ((itA θ k c).lt w hA x hx) ?_
        rintro ⟨j, hj, c1, h1, h2⟩
        exact hm.dj k c j c1 hk' h1 (fun e' => e (e' ▸ hj)) x hx h2
  · by_cases e0 : k = id
    · subst e0; rw [hid] at hk'; cases hk'; exact hv
    · by_cases e : k ∈ ids
      · obtain ⟨-, c1, c', h1, h2, -, -, h5⟩ := ht k e
        rw [h2] at hk'; cases hk'; exact h5
      · rw [hg k e e0] at hk'
        exact fun x hx' => (hm.wf k c hk' x hx').mono hx.ah
  · by_cases e0 : k = id
    · subst e0
      rw [hid] at hk1; cases hk1
      obtain ⟨c0, -, h2⟩ := old k' c' hk2 (Ne.symm hne)
      exact (h2 x hx2).2 hx1
    · obtain ⟨c0, h1, h2⟩ := old k c hk1 e0
      by_cases e1 : k' = id
      · subst e1
        rw [hid] at hk2; cases hk2
        exact (h2 x hx1).2 hx2
      · obtain ⟨c0', h1', h2'⟩ := old k' c' hk2 e1
        exact hm.dj k c0 k' c0' h1 h1' hne x (h2 x hx1).1 (h2' x hx2).1
  · by_cases e0 : k = id
    · subst e0
      rw [hid] at g2; cases g2
      rcases hbs x g3 with h | ⟨j, hj, c1, h1, h2⟩
      · omega
      · exact ⟨j, c1, (ht j hj).1, h1, h2⟩
    · obtain ⟨c0, h1, h2⟩ := old k c g2 e0
      exact ⟨k, c0, g1, h1, (h2 x g3).1⟩
end
end Go.PK

/-
  ES, part 5: a Builder's text read: its bytes are given away.
-/
namespace Go.Proofs.YtpaemkemknfmfaaGreatDoor
open Go.PK
noncomputable def okP (r : Nat) : AV → Bool
  | .val (.pointer none) => true
  | .ptr q 3 => Nat.beq q r
  | _ => false
theorem okP_ok {r : Nat} {p : AV} (h : okP r p = true) (θ : Vl) : ∃ q, p.dec θ = .pointer q ∧ (q = none ∨ q = me3 (θ r).1) := by
  unfold okP at h
  split at h
  · exact ⟨none, rfl, .inl rfl⟩
  · have := Nat.eq_of_beq_eq_true h
    subst this
    exact ⟨_, rfl, .inr rfl⟩
  · cases h
noncomputable def byU (l : List AV) : Option (List UInt8) := List.rec (motive := fun _ => Option (List UInt8)) (some []) (fun x _ ih => onU8 x fun b => ob ih fun r => some (UInt8.ofNat b :: r)) l
theorem byU_ok : ∀ (l : List AV) (s : List UInt8), byU l = some s → l = (txU s).map avB
  | [], s, h => by cases h; rfl
  | x :: l, s, h => by
    obtain ⟨b, rfl, h2⟩ := onU8_inv (show onU8 x (fun b => ob (byU l) fun r => some (UInt8.ofNat b :: r)) = some s from h)
    obtain ⟨r, h3, h4⟩ := ob_inv h2
    cases h4
    rw [byU_ok l r h3]
    have e : (UInt8.ofNat b.toNat).toBitVec = b := by simp
    simp only [txU, List.map_cons]
    rw [e]
noncomputable def hkStr : Hk := fun hb h nx a => match a with
  | [.ptr r 3] => match h.get r with
    | some (.cells T [x, y, z, p, .sl id 0 n false 0]) => match h.get id with
      | some (.own U 1 m l) => bo (decide (T = 80) && (decide (U = 5) && (okP r p && (Nat.beq m n && (Nat.blt 0 n && Nat.blt n 100000))))) (bo ((hb.get id).isNone && (hb.get r).isNone) (ob (h.set .dead id) fun h => ob (byU l) fun s => some (.val (.string ⟨⟨s⟩⟩), h, nx)) none) none
      | _ => none
    | _ => none
  | _ => none
theorem hkStr_ok {f : Nat} (hO : okF Tryz.prog f = true) (hS : ∀ (b : Nat) (x y z : Value) (p : Option Addr) (ob cap n : Nat) (l : Tx), l.length = n → 0 < n → n ≤ 1000000000 →
      Spc Tryz.prog f #[.pointer (me3 b)] [] [plC b x y z p (slO (some ob) n cap), own (some ob) cap 5 1 n (bytes l)] (fun r I' H' => r = .string (txt l) ∧ I' = [] ∧ H' = [plC b x y z p (slO (some ob) n cap)]))
    {hb h h' : Heap} {nx nx' : Nat} {args : List AV} {v : AV} (he : hkStr hb h nx args = some (v, h', nx')) : FOk Tryz.prog f args h hb v h' := by
  unfold hkStr at he
  split at he
  · next r =>
    split at he
    · next T x y z p id n hr =>
      split at he
      · next U m l hid =>
        obtain ⟨h1, h2⟩ := bo_inv he
        obtain ⟨h3, h4⟩ := bo_inv h2
        obtain ⟨t1, h5, h6⟩ := ob_inv h4
        obtain ⟨s, h7, h8⟩ := ob_inv h6
        cases h8
        simp only [Bool.and_eq_true, decide_eq_true_eq] at h1
        obtain ⟨rfl, rfl, q1, q2, q3, q4⟩ := h1
        have e0 := Nat.eq_of_beq_eq_true q2
        subst e0
        have hn0 : 0 < m := Nat.le_of_ble_eq_true q3
        have hn1 : m < 100000 := Nat.le_of_ble_eq_true q4
        rw [Bool.and_eq_true, Option.isNone_iff_eq_none, Option.isNone_iff_eq_none] at h3
        obtain ⟨n1, n2⟩ := h3
        obtain rfl := byU_ok l s h7
        have hg := Tr.set_get h5
        have hne : r ≠ id := fun e => by subst e; rw [hr] at hid; cases hid
        refine ⟨okF_ok f hO, fun hi θ w hm hwa => ?_⟩
        obtain ⟨q, hq, -⟩ := okP_ok q1 θ
        have hAr := hm.ok r _ hr
        have hAo := hm.ok id _ hid
        have d1 := hm.dj r _ id _ hr hid hne
        simp only [itA] at hAr hAo d1
        rw [avB_dec] at hAo
        have hl : (txU s).length = m := by
          have := hAo.1
          simpa [bytes] using this
        have hbm : (θ r).1 ≠ (θ id).1 := fun e => d1 _ (List.mem_singleton_self _) (by rw [e]; exact List.mem_singleton_self _)
        have hcs : [x, y, z, p, AV.sl id 0 m false 0].map (AV.dec θ) = [x.dec θ, y.dec θ, z.dec θ, .pointer q, slO (some (θ id).1) m (θ id).2] := by
          simp only [List.map_cons, List.map_nil, hq]; rfl
        rw [hcs] at hAr
        have S := hS (θ r).1 (x.dec θ) (y.dec θ) (z.dec θ) q (θ id).1 (θ id).2 m (txU s) hl hn0 (by omega)
        rw [txt_txU] at S
        refine (S w ⟨(fun _ h => by cases h), fun y' hy => ?_, ?_, (fun _ h => by cases h)⟩).mono ?_
        · rcases List.mem_cons.1 hy with rfl | hy
          · exact hAr
          · rw [List.mem_singleton.1 hy]; exact hAo
        · show [(θ r).1, (θ id).1].Nodup
          simp [hbm]
        · rintro e' w' ⟨u, I', H', rfl, ⟨rfl, rfl, rfl⟩, hk, hs', -, -⟩
          have B1 := hs'.h _ (List.mem_cons_self ..)
          have gr : h'.get r = some (.cells 80 [x, y, z, p, AV.sl id 0 m false 0]) := by rw [hg, if_neg hne, hr]
          have gi : h'.get id = some .dead := by rw [hg, if_pos rfl]
          refine ⟨_, rfl, ⟨θ, aft_turns [r, id] hm (fun j hj => ?_) (fun j hj => ?_) ⟨hk.os, hk.tape, hk.output, hk.size, fun b hlt hn => hk.block b hlt fun hb' => hn ?_, hk.drawn⟩ trivial rfl⟩, fun k c' hk' => ?_⟩
          · simp only [List.mem_cons, List.not_mem_nil, or_false, not_or] at hj
            rw [hg, if_neg hj.2]
          · rcases List.mem_cons.1 hj with rfl | hj
            · refine ⟨n2, _, _, hr, gr, ?_, fun _ h => h, hm.wf _ _ hr⟩
              simp only [itA]
              rw [hcs]; exact B1
            · obtain rfl := List.mem_singleton.1 hj
              exact ⟨n1, _, _, hid, gi, trivial, (fun x hx => by cases hx), (fun x hx => by cases hx)⟩
          · have hb'' : b = (θ r).1 ∨ b = (θ id).1 := by simpa [bss, cel, own] using hb'
            rcases hb'' with rfl | rfl
            · exact ⟨r, by simp, _, hr, List.mem_singleton_self _⟩
            · exact ⟨id, by simp, _, hid, List.mem_singleton_self _⟩
          · have a1 : k ≠ id := fun e => by subst e; rw [n1] at hk'; cases hk'
            rw [hg, if_neg a1]; exact hi k c' hk'
      · cases he
    · cases he
  · cases he
end Go.Proofs.YtpaemkemknfmfaaGreatDoor

/-
  ES, part 6: a text written to a Builder.
-/
namespace Go.Proofs.YtpaemkemknfmfaaGreatDoor
open Go.PK
noncomputable def avU (l : List UInt8) : List AV := List.rec (motive := fun _ => List AV) [] (fun x _ ih => .val (.int .u8 (.ofNat x.toNat)) :: ih) l
theorem avU_eq : ∀ l : List UInt8, avU l = (txU l).map avB
  | [] => rfl
  | x :: l => by
    show AV.val (.int .u8 (.ofNat x.toNat)) :: avU l = _
    rw [avU_eq l]; rfl
theorem hkW_core {f : Nat} (hO : okF Tryz.prog f = true) (hS : ∀ (b : Nat) (x y z : Value) (p : Option Addr), p = none ∨ p = me3 b → ∀ (ob : Option Nat) (cap n : Nat) (l s : Tx), n + s.length ≤ 1000000000 →
      Spc Tryz.prog f #[.pointer (me3 b), .string (txt s)] [] [plC b x y z p (slO ob n cap), own ob cap 5 1 n (bytes l)]
        (fun r I' H' => ∃ ob' cap', r = .tuple #[.int .i64 (s.length : Int), .nilIface] ∧ I' = [] ∧ H' = [plC b x y z (me3 b) (slO ob' (n + s.length) cap'), own ob' cap' 5 1 (n + s.length) (bytes (l ++ s))] ∧ (n + s.length = 0 ∨ ob'.isSome = true)))
    {h h' hb : Heap} {r nx : Nat} {x y z p u : AV} {s : ByteArray} (hr : h.get r = some (.cells 80 [x, y, z, p, u])) (n2 : hb.get r = none) (hp : okP r p = true) (D : List Nat) (bs : List B8) (n : Nat)
    (hlim : n ≤ 100000) (hs0 : 0 < s.size) (hs1 : s.size < 10000)
    (hD : ∀ j ∈ D, hb.get j = none ∧ j ≠ r ∧ j ≠ nx ∧ ∃ c, h.get j = some c ∧ h'.get j = some .dead)
    (h0 : h.get nx = none) (hnr : nx ≠ r)
    (gr : h'.get r = some (.cells 80 [x, y, z, .ptr r 3, .sl nx 0 (n + s.size) false 0]))
    (gn : h'.get nx = some (.own 5 1 (n + s.size) ((bs ++ txU s.data.toList).map avB)))
    (gg : ∀ j, j ≠ r → j ∉ D → j ≠ nx → h'.get j = h.get j)
    (hu : ∀ θ w, Mem θ h w → ∃ ob cap, u.dec θ = slO ob n cap ∧ (own ob cap 5 1 n (bytes bs)).A w ∧ ∀ b ∈ ob.toList, b ≠ (θ r).1 ∧ ∃ j ∈ D, ∃ c, h.get j = some c ∧ b ∈ (itA θ j c).bs) :
    FOk Tryz.prog f [.ptr r 3, .val (.string s)] h hb (.tup [.val (.int .i64 (.ofNat s.size)), .val .nilIface]) h' := by
  refine ⟨okF_ok f hO, fun hi θ w hm hwa => ?_⟩
  have hbn : hb.get nx = none := by
    cases hh : hb.get nx with
    | none => rfl
    | some c => have := hi nx c hh; rw [h0] at this; cases this
  obtain ⟨q, hq, hq2⟩ := okP_ok hp θ
  obtain ⟨ob, cap, hud, hAo, hob⟩ := hu θ w hm
  have hAr := hm.ok r _ hr
  simp only [itA] at hAr
  have hcs : [x, y, z, p, u].map (AV.dec θ) = [x.dec θ, y.dec θ, z.dec θ, .pointer q, slO ob n cap] := by
    simp only [List.map_cons, List.map_nil, hq, hud]
  rw [hcs] at hAr
  have hsl : (txU s.data.toList).length = s.size := by simp only [txU, List.length_map]; rfl
  have S := hS (θ r).1 (x.dec θ) (y.dec θ) (z.dec θ) q hq2 ob cap n bs (txU s.data.toList) (by omega)
  rw [txt_txU, hsl] at S
  refine (S w ⟨(fun _ h => by cases h), fun y' hy => ?_, ?_, (fun _ h => by cases h)⟩).mono ?_
  · rcases List.mem_cons.1 hy with rfl | hy
    · exact hAr
    · rw [List.mem_singleton.1 hy]; exact hAo
  · show ((θ r).1 :: (ob.toList ++ [])).Nodup
    rw [List.append_nil, List.nodup_cons]
    refine ⟨fun hc => (hob _ hc).1 rfl, ?_⟩
    cases ob <;> simp
  · rintro e' w' ⟨v', I', H', rfl, ⟨ob', cap', rfl, rfl, rfl, hsome⟩, hk, hs', hfr, -⟩
    obtain ⟨b', rfl⟩ := Option.isSome_iff_exists.1 (hsome.resolve_left (by omega))
    have B1 := hs'.h _ (List.mem_cons_self ..)
    have B2 := hs'.h _ (List.mem_cons_of_mem _ (List.mem_cons_self ..))
    have hnd : ((θ r).1 :: [b']).Nodup := hs'.nd
    have hrb : (θ r).1 ≠ b' := fun e => by rw [e] at hnd; simp at hnd
    have hcap : n + s.size ≤ cap' := B2.2.1
    have ne : ∀ k c, h.get k = some c → k ≠ nx := fun k c hk e => by subst e; rw [hk] at h0; cases h0
    have hx : Ext θ h (upd θ nx (b', cap')) h' := ⟨fun k hk => by
      obtain ⟨c, hc⟩ := Option.isSome_iff_exists.1 hk
      refine ⟨upd_ne (ne k c hc), ?_⟩
      by_cases e : k = r
      · subst e; rw [gr]; rfl
      · by_cases e2 : k ∈ D
        · obtain ⟨-, -, -, c, -, h2⟩ := hD k e2
          rw [h2]; rfl
        · rw [gg k e e2 (ne k c hc)]; exact hk⟩
    have hwr := hm.wf r _ hr
    have hwx := hwr x (by simp [Blk.vals])
    have hwy := hwr y (by simp [Blk.vals])
    have hwz := hwr z (by simp [Blk.vals])
    have itr : itA (upd θ nx (b', cap')) r (.cells 80 [x, y, z, .ptr r 3, .sl nx 0 (n + s.size) false 0]) = plC (θ r).1 (x.dec θ) (y.dec θ) (z.dec θ) (me3 (θ r).1) (slO (some b') (n + s.size) cap') := by
      simp only [itA, List.map_cons, List.map_nil, AV.dec_ext hx.th hwx, AV.dec_ext hx.th hwy, AV.dec_ext hx.th hwz, upd_ne (Ne.symm hnr)]
      simp only [AV.dec, upd_ne (Ne.symm hnr), upd_at]; rfl
    have itn : itA (upd θ nx (b', cap')) nx (.own 5 1 (n + s.size) ((bs ++ txU s.data.toList).map avB)) = own (some b') cap' 5 1 (n + s.size) (bytes (bs ++ txU s.data.toList)) := by
      simp only [itA, upd_at, avB_dec]
    refine ⟨_, rfl, ⟨upd θ nx (b', cap'), aft_come (r :: D) nx _ (b', cap') hm h0 gn (fun j hj hj2 => ?_) (fun j hj => ?_) ⟨hk.os, hk.tape, hk.output, hk.size, fun b hlt hn => hk.block b hlt fun hb' => hn ?_, hk.drawn⟩ (by rw [itn]; exact B2) (fun c hc => ?_) (fun c hc => wfL_iff.1 (avB_wf _ _) c hc) ⟨trivial, trivial, trivial⟩ rfl⟩, fun k c' hk' => ?_⟩
    · rw [List.mem_cons, not_or] at hj
      exact gg j hj.1 hj.2 hj2
    · rcases List.mem_cons.1 hj with rfl | hj
      · refine ⟨n2, _, _, hr, gr, by rw [itr]; exact B1, fun c hc => ?_, fun c hc => ?_⟩
        · rw [itr] at hc
          obtain rfl : c = (θ j).1 := List.mem_singleton.1 hc
          refine ⟨List.mem_singleton_self _, fun h => ?_⟩
          rw [itn] at h
          exact hrb (by simpa [own] using h)
        · simp only [Blk.vals, List.mem_cons, List.not_mem_nil, or_false] at hc
          rcases hc with rfl | rfl | rfl | rfl | rfl
          · exact hwx.mono hx.ah
          · exact hwy.mono hx.ah
          · exact hwz.mono hx.ah
          · exact ⟨by rw [gr]; rfl, Nat.zero_le _⟩
          · exact ⟨by rw [gn]; rfl, by rw [upd_at]; exact hcap⟩
      · obtain ⟨d1, -, -, c, d2, d3⟩ := hD j hj
        exact ⟨d1, c, .dead, d2, d3, trivial, (fun _ h => by cases h), (fun _ h => by cases h)⟩
    · have hb'' : b = (θ r).1 ∨ b ∈ ob.toList := by simpa [bss, cel, own] using hb'
      rcases hb'' with rfl | hb3
      · exact ⟨r, by simp, _, hr, List.mem_singleton_self _⟩
      · obtain ⟨-, j, hj, c, h1, h2⟩ := hob b hb3
        exact ⟨j, List.mem_cons_of_mem _ hj, c, h1, h2⟩
    · rw [itn] at hc
      obtain rfl : c = b' := by simpa [own] using hc
      rcases hfr c (by simp [bss, own, cel]) with h | h
      · have h3 : c = (θ r).1 ∨ c ∈ ob.toList := by simpa [bss, cel, own] using h
        rcases h3 with h3 | h3
        · exact absurd h3.symm hrb
        · obtain ⟨-, j, hj, c1, h1, h2⟩ := hob c h3
          exact .inr ⟨j, List.mem_cons_of_mem _ hj, c1, h1, h2⟩
      · exact .inl h
    · have a1 : k ≠ r := fun e => by subst e; rw [n2] at hk'; cases hk'
      have a2 : k ∉ D := fun e => by rw [(hD k e).1] at hk'; cases hk'
      have a3 : k ≠ nx := fun e => by subst e; rw [hbn] at hk'; cases hk'
      rw [gg k a1 a2 a3]; exact hi k c' hk'
end Go.Proofs.YtpaemkemknfmfaaGreatDoor

/-
  ES, part 7: a text written to a Builder: the hook is sound.
-/
namespace Go.Proofs.YtpaemkemknfmfaaGreatDoor
open Go.PK
noncomputable def hkWrite : Hk := fun hb h nx a => match a with
  | [.ptr r 3, .val (.string s)] => match h.get r with
    | some (.cells T [x, y, z, p, u]) => bo (decide (T = 80) && (okP r p && ((hb.get r).isNone && (Nat.blt 0 s.size && Nat.blt s.size 10000)))) (match u with
      | .val (.slice none 0 0) => ob (h.set (.cells T [x, y, z, .ptr r 3, .sl nx 0 s.size false 0]) r) fun h => ob (newF nx (.own 5 1 s.size (avU s.data.toList)) (.tup [.val (.int .i64 (.ofNat s.size)), .val .nilIface]) h) fun q => some (q.1, q.2, Nat.succ nx)
      | .sl id 0 n false 0 => match h.get id with
        | some (.own U 1 m l) => bo (decide (U = 5) && (Nat.beq m n && ((hb.get id).isNone && (Nat.blt n 100000 && all8 l)))) (ob (h.set (.cells T [x, y, z, .ptr r 3, .sl nx 0 (n + s.size) false 0]) r) fun h => ob (h.set .dead id) fun h => ob (newF nx (.own 5 1 (n + s.size) (appL l (avU s.data.toList))) (.tup [.val (.int .i64 (.ofNat s.size)), .val .nilIface]) h) fun q => some (q.1, q.2, Nat.succ nx)) none
        | _ => none
      | _ => none) none
    | _ => none
  | _ => none
theorem hkWrite_ok {f : Nat} (hO : okF Tryz.prog f = true) (hS : ∀ (b : Nat) (x y z : Value) (p : Option Addr), p = none ∨ p = me3 b → ∀ (ob : Option Nat) (cap n : Nat) (l s : Tx), n + s.length ≤ 1000000000 →
      Spc Tryz.prog f #[.pointer (me3 b), .string (txt s)] [] [plC b x y z p (slO ob n cap), own ob cap 5 1 n (bytes l)]
        (fun r I' H' => ∃ ob' cap', r = .tuple #[.int .i64 (s.length : Int), .nilIface] ∧ I' = [] ∧ H' = [plC b x y z (me3 b) (slO ob' (n + s.length) cap'), own ob' cap' 5 1 (n + s.length) (bytes (l ++ s))] ∧ (n + s.length = 0 ∨ ob'.isSome = true)))
    {hb h h' : Heap} {nx nx' : Nat} {args : List AV} {v : AV} (he : hkWrite hb h nx args = some (v, h', nx')) : FOk Tryz.prog f args h hb v h' := by
  unfold hkWrite at he
  split at he
  · next r s =>
    split at he
    · next T x y z p u hr =>
      obtain ⟨h1, h2⟩ := bo_inv he
      simp only [Bool.and_eq_true, decide_eq_true_eq, Option.isNone_iff_eq_none] at h1
      obtain ⟨rfl, hp, n2, q1, q2⟩ := h1
      have hs0 : 0 < s.size := Nat.le_of_ble_eq_true q1
      have hs1 : s.size < 10000 := Nat.le_of_ble_eq_true q2
      split at h2
      · obtain ⟨t1, h3, h4⟩ := ob_inv h2
        obtain ⟨⟨v1, t2⟩, h5, h6⟩ := ob_inv h4
        rw [newF_eq] at h5
        cases h6
        obtain ⟨g0, rfl, g2⟩ := newB_inv h5
        have g1 := Tr.set_get h3
        have hnr : nx ≠ r := fun e => by subst e; rw [g1, if_pos rfl] at g0; cases g0
        rw [g1, if_neg hnr] at g0
        refine hkW_core hO hS hr n2 hp [] [] 0 (by omega) hs0 hs1 (fun j hj => by cases hj) g0 hnr ?_ ?_ (fun j e1 _ e3 => by rw [g2, if_neg e3, g1, if_neg e1]) (fun θ w hm => ⟨none, 0, rfl, ⟨rfl, rfl, rfl⟩, fun _ hc => by cases hc⟩)
        · rw [g2, if_neg (Ne.symm hnr), g1, if_pos rfl, Nat.zero_add]
        · rw [g2, if_pos rfl, Nat.zero_add, avU_eq]; rfl
      · next id n =>
        split at h2
        · next U m l hid =>
          obtain ⟨h3, h4⟩ := bo_inv h2
          simp only [Bool.and_eq_true, decide_eq_true_eq, Option.isNone_iff_eq_none] at h3
          obtain ⟨rfl, e0, n1, q3, q4⟩ := h3
          obtain rfl := Nat.eq_of_beq_eq_true e0
          have hlim : m < 100000 := Nat.le_of_ble_eq_true q3
          obtain ⟨bs, rfl⟩ := all8_ok l q4
          obtain ⟨t1, h5, h6⟩ := ob_inv h4
          obtain ⟨t2, h7, h8⟩ := ob_inv h6
          obtain ⟨⟨v1, t3⟩, h9, h10⟩ := ob_inv h8
          rw [newF_eq] at h9
          cases h10
          obtain ⟨g0, rfl, g3⟩ := newB_inv h9
          have g1 := Tr.set_get h5
          have g2 := Tr.set_get h7
          have hri : id ≠ r := fun e => by subst e; rw [hr] at hid; cases hid
          have hni : nx ≠ id := fun e => by subst e; rw [g2, if_pos rfl] at g0; cases g0
          rw [g2, if_neg hni] at g0
          have hnr : nx ≠ r := fun e => by subst e; rw [g1, if_pos rfl] at g0; cases g0
          rw [g1, if_neg hnr] at g0
          refine hkW_core hO hS hr n2 hp [id] bs m (by omega) hs0 hs1 (fun j hj => ?_) g0 hnr ?_ ?_ (fun j e1 e2 e3 => ?_) (fun θ w hm => ?_)
          · obtain rfl := List.mem_singleton.1 hj
            exact ⟨n1, hri, Ne.symm hni, _, hid, by rw [g3, if_neg (Ne.symm hni), g2, if_pos rfl]⟩
          · rw [g3, if_neg (Ne.symm hnr), g2, if_neg (Ne.symm hri), g1, if_pos rfl]
          · rw [g3, if_pos rfl, appL_eq, avU_eq, ← List.map_append]
          · have e4 : j ≠ id := fun e => e2 (by rw [e]; exact List.mem_singleton_self _)
            rw [g3, if_neg e3, g2, if_neg e4, g1, if_neg e1]
          · have hAo := hm.ok id _ hid
            have d1 := hm.dj r _ id _ hr hid (Ne.symm hri)
            simp only [itA] at hAo d1
            rw [avB_dec] at hAo
            refine ⟨some (θ id).1, (θ id).2, rfl, hAo, fun b hb' => ?_⟩
            obtain rfl : b = (θ id).1 := by simpa using hb'
            refine ⟨fun e => d1 _ (List.mem_singleton_self _) (by rw [← e]; exact List.mem_singleton_self _), id, by simp, _, hid, List.mem_singleton_self _⟩
        · cases h2
      · cases h2
    · cases he
  · cases he
end Go.Proofs.YtpaemkemknfmfaaGreatDoor
