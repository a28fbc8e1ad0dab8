import Derived.Test.YtbdnebedmdoehaaGreatS13
import Derived.Test.YtbdnebedmdoehaaGreatSC
import Derived.Test.YtbdnebedmdoehaaGreatV2
import Derived.Test.YtbdnebedmdoehaaGreatBase
import Derived.Test.YtbdnebedmdoehaaGreatChain3
namespace Go.Proofs.YtbdnebedmdoehaaGreat
open Go.PK
/-! ### What holds of a receiver after so many acts -/
theorem putN_fst (e v : Int) : ∀ m : Tm, (putN e v m).map (·.1) = if e ∈ m.map (·.1) then m.map (·.1) else m.map (·.1) ++ [e]
  | [] => by simp [putN]
  | (a, k) :: r => by
    have ih := putN_fst e v r
    rw [putN]
    by_cases h : e = a
    · subst h; simp
    · rw [if_neg h, List.map_cons, ih, List.map_cons]
      by_cases h2 : e ∈ r.map (·.1)
      · rw [if_pos h2, if_pos (List.mem_cons_of_mem _ h2)]
      · rw [if_neg h2, if_neg (fun hm => (List.mem_cons.1 hm).elim h h2)]; rfl
theorem bump_nd {e : Int} {m : Tm} (h : (m.map (·.1)).Nodup) : ((bump e m).map (·.1)).Nodup := by
  rw [bump, putN_fst]
  split
  · exact h
  · next hn =>
    refine List.nodup_append.2 ⟨h, by simp, fun a ha b hb e' => ?_⟩
    rw [List.mem_singleton] at hb
    subst hb; subst e'; exact hn ha
theorem bump_len (e : Int) (m : Tm) : (bump e m).length ≤ m.length + 1 := by
  have h := congrArg List.length (putN_fst e (cnt e m + 1) m)
  rw [List.length_map] at h
  rw [bump, h]
  split <;> simp
structure LInv (n : Nat) (z : RSt) : Prop where
  iv : z.iv < 4294967296
  k : z.k.length = 32
  bad : z.bad ≤ 16 * n
  rel : z.rel ≤ 16 * n
  c : ∀ x ∈ z.c, x.2.Ok
  l : z.c.length ≤ 16
  m : TmB z.m n
  gt : ∀ x ∈ z.c, (z.iv : Int) < x.1.1
  nd : (z.m.map (·.1)).Nodup
  ml : z.m.length ≤ n
theorem LInv.ok {n : Nat} {z : RSt} (h : LInv n z) (hn : n ≤ 1000) : z.Ok :=
  ⟨h.iv, h.k, by have := h.bad; omega, by have := h.rel; omega, h.c, h.l, fun x hx => by have := h.m x hx; omega⟩
theorem LInv.mono {n m : Nat} {z : RSt} (h : LInv n z) (hn : n ≤ m) : LInv m z :=
  ⟨h.iv, h.k, by have := h.bad; omega, by have := h.rel; omega, h.c, h.l, fun x hx => by have := h.m x hx; omega, h.gt, h.nd, by have := h.ml; omega⟩
theorem LInv.zero {k : List B8} (hk : k.length = 32) : LInv 0 (RBk.z0 k) :=
  ⟨by show 0 < 4294967296; decide, hk, Nat.le_refl _, Nat.le_refl _, fun x hx => (by cases hx), by show 0 ≤ 16; decide, fun x hx => (by cases hx), fun x hx => (by cases hx), List.nodup_nil, Nat.le_refl _⟩
theorem TmB.bump {n : Nat} {m : Tm} (h : TmB m n) (e : Int) : TmB (bump e m) ((n + 1 : Nat) : Int) := by
  have := bump_bd (e := e) (by omega) h
  exact this
theorem MessO.inv {s : Sch} {n : Nat} {z : RSt} {t : Int} {f : Fr} {e : Int} {c' : Bq} {I' : List It} (h : LInv n z) (hM : MessO s z.iv t z.c f e c' I') (hf : f.Ok) (hb : f.b.length ≤ 100000) : LInv (n + 1) { z with c := c', m := bump e z.m } ∧ ∀ x ∈ c', x ∈ z.c ∨ bodyO x.2 ∈ I' := by
  have hb0 := h.bad
  have hr0 := h.rel
  have hml := bump_len e z.m
  have hml2 := h.ml
  have key : ∀ c2 : Bq, (∀ x ∈ c2, x.2.Ok) → c2.length ≤ 16 → (∀ x ∈ c2, (z.iv : Int) < x.1.1) → LInv (n + 1) { z with c := c2, m := bump e z.m } := fun c2 h1 h2 h3 =>
    ⟨h.iv, h.k, by show z.bad ≤ _; omega, by show z.rel ≤ _; omega, h1, h2, h.m.bump e, h3, bump_nd h.nd, by show (bump e z.m).length ≤ _; omega⟩
  cases hM with
  | no => exact ⟨key _ h.c h.l h.gt, fun x hx => .inl hx⟩
  | go ht hm =>
    cases hm with
    | no => exact ⟨key _ h.c h.l h.gt, fun x hx => .inl hx⟩
    | put hE hp =>
      cases hp with
      | no => exact ⟨key _ h.c h.l h.gt, fun x hx => .inl hx⟩
      | yes x hx hq =>
        have hgt : z.iv < mIv f := by
          unfold msgE at hE
          split at hE
          · cases hE
          · split at hE
            · cases hE
            · next hc => exact Nat.lt_of_not_le fun hle => hc (.inl hle)
        have hl16 : (keysQ z.c).length ≠ 16 := fun e16 => by
          unfold qputE at hq
          rw [if_pos e16] at hq
          split at hq
          · cases hq
          · split at hq <;> cases hq
        have hl := h.l
        have hl16' : z.c.length ≠ 16 := by simpa [keysQ] using hl16
        refine ⟨key _ (fun y hy => ?_) (by rw [List.length_append]; simp; omega) (fun y hy => ?_), fun y hy => ?_⟩
        · rcases List.mem_append.1 hy with hy | hy
          · exact h.c y hy
          · rw [List.mem_singleton] at hy; subst hy
            exact ⟨by rw [hx]; exact hf, by rw [hx]; exact hb⟩
        · rcases List.mem_append.1 hy with hy | hy
          · exact h.gt y hy
          · rw [List.mem_singleton] at hy; subst hy
            show (z.iv : Int) < (mIv f : Int); omega
        · rcases List.mem_append.1 hy with hy | hy
          · exact .inl hy
          · rw [List.mem_singleton] at hy; subst hy
            exact .inr List.mem_cons_self
theorem TakeO.memC {c : Bq} {iv : Int} {T c' : Bq} (h : TakeO c iv T c') : ∀ x ∈ c', x ∈ c := fun x hx => h.p.mem_iff.1 (List.mem_append_right _ hx)
theorem DisO.inv {n : Nat} {z : RSt} {iv : Nat} {key : List B8} {e : Int} {T : Bq} {z' : RSt} (h : LInv n z) (hD : DisO z iv key e T z') (hiv : iv < 4294967296) (hkey : key.length = 32) : LInv (n + 1) z' ∧ (∀ x ∈ z'.c, x ∈ z.c) ∧ ∀ x ∈ T, x ∈ z.c := by
  have hb0 := h.bad
  have hr0 := h.rel
  have hml2 := h.ml
  cases hD with
  | no he h0 =>
    have hml := bump_len e z.m
    exact ⟨⟨h.iv, h.k, by show z.bad ≤ _; omega, by show z.rel ≤ _; omega, h.c, h.l, h.m.bump e, h.gt, bump_nd h.nd, by show (bump e z.m).length ≤ _; omega⟩, fun x hx => hx, fun x hx => (by cases hx)⟩
  | yes he hT =>
    rename_i c'
    have hml := bump_len 0 z.m
    have h1 := hT.lenT
    have h2 := relL_le key iv T
    have h3 := h.l
    have h4 := hT.p.length_eq
    rw [List.length_append] at h4
    refine ⟨⟨hiv, hkey, ?_, ?_, fun x hx => h.c x (hT.memC x hx), ?_, h.m.bump 0, fun x hx => hT.gt x hx, bump_nd h.nd, by show (bump 0 z.m).length ≤ _; omega⟩, fun x hx => hT.memC x hx, fun x hx => hT.memT x hx⟩
    · generalize hR : relL key iv T = R at *
      rw [afterD, hR]
      show z.bad + (T.length - R.length) ≤ _
      omega
    · generalize hR : relL key iv T = R at *
      rw [afterD, hR]
      show z.rel + R.length ≤ _
      omega
    · show c'.length ≤ 16
      omega
theorem RaiseO.inv {n : Nat} {z : RSt} {iv : Nat} {key : List B8} {e : Int} {z' : RSt} (h : LInv n z) (hR : RaiseO z iv key e z') (hiv : iv < 4294967296) (hkey : key.length = 32) : LInv (n + 1) z' ∧ ∀ x ∈ z'.c, x ∈ z.c := by
  cases hR with
  | no => exact ⟨h.mono (by omega), fun x hx => hx⟩
  | yes hn hT =>
    rename_i T c'
    have hb0 := h.bad
    have hr0 := h.rel
    have hml2 := h.ml
    have h1 := hT.lenT
    have h3 := h.l
    have h4 := hT.p.length_eq
    rw [List.length_append] at h4
    exact ⟨⟨hiv, hkey, by show z.bad + T.length ≤ _; omega, by show z.rel ≤ _; omega, fun x hx => h.c x (hT.memC x hx), by show c'.length ≤ 16; omega, fun x hx => by have := h.m x hx; omega, fun x hx => hT.gt x hx, h.nd, by show z.m.length ≤ _; omega⟩, fun x hx => hT.memC x hx⟩
end Go.Proofs.YtbdnebedmdoehaaGreat

namespace Go.Proofs.YtbdnebedmdoehaaGreat
open Go.PK
/-! ### The law's keys and frames -/
def keyA (sd : B8) (a : Act21) : List B8 := if a.rw_ = true ∨ 13 ≤ a.iv then a.k else nextN (base21 sd) (12 - a.iv.toNat)
def turnT (t : List B8) (x : B8) : List B8 := t.set 3 (t.getD 3 0#8 ^^^ x)
noncomputable def shG (sd : B8) (n : Nat) (s : B8) (p : Int) (sg : Bool) : Fr := if sg = true ∧ n < 13 then (mFr n s p).tsign (nextN (base21 sd) (12 - n)) n else mFr n s p
noncomputable def shN (sd : B8) (n : Nat) (s : B8) (p : Int) (sg rw_ : Bool) (tn : B8) (x : FrA) : Fr := if rw_ then { x.f with b := x.f.b.take 50 } else { shG sd n s p sg with tag := turnT (shG sd n s p sg).tag tn }
noncomputable def shF (sd : B8) (a : Act21) : Fr := shN sd a.iv.toNat (BitVec.ofInt 8 a.sq) a.at_ a.sg a.rw_ (BitVec.ofInt 8 a.tn) a.x
def ShowR (f : Fr) : Value → List It → List It → Prop := fun v I' H' => ∃ ob cap, v = frV ⟨f, ob, cap⟩ ∧ f.b.length ≤ cap ∧ I' = [] ∧ H' = [bodyO ⟨f, ob, cap⟩]
theorem keyA_len (sd : B8) {a : Act21} (h : a.Ok) : (keyA sd a).length = 32 := by
  rw [keyA]; split
  · exact h.k
  · exact nextN_len (base21_len sd) _
theorem act_k (a : Act21) (h : a.Ok) : ∀ (j : Nat) (u : Value), (bytes a.k)[j]? = some u → a.cells[0 + 29 + j]? = some u := fun j u hj => by
  have hfl := fr_len h.x.f.tag a.x.sl
  rw [show 0 + 29 + j = (21 + j) + 1 + 1 + 1 + 1 + 1 + 1 + 1 + 1 by omega]
  exact ((List.getElem?_append_right (by omega)).trans (by rw [hfl, Nat.add_sub_cancel_left])).trans hj
theorem act_f (a : Act21) : ∀ (j : Nat) (u : Value), (a.x.f.cells a.x.sl)[j]? = some u → a.cells[0 + 8 + j]? = some u := fun j u hj => by
  rw [show 0 + 8 + j = j + 1 + 1 + 1 + 1 + 1 + 1 + 1 + 1 by omega]
  exact (List.getElem?_append_left (List.getElem?_eq_some_iff.1 hj).1).trans hj
theorem turn_len {t : List B8} (h : t.length = 16) (x : B8) : (turnT t x).length = 16 := by simp [turnT, h]
theorem shG_ok (sd : B8) (n : Nat) (s : B8) (p : Int) (sg : Bool) : (shG sd n s p sg).Ok := by
  rw [shG]; split
  · exact Fr.tsign_ok (mFr_ok n s p) _ _
  · exact mFr_ok n s p
theorem shG_b (sd : B8) (n : Nat) (s : B8) (p : Int) (sg : Bool) : (shG sd n s p sg).b = (mFr n s p).b := by
  rw [shG]; split <;> rfl
theorem shN_ok {sd : B8} {n : Nat} {s : B8} {p : Int} {sg rw_ : Bool} {tn : B8} {x : FrA} (h : x.Ok) : (shN sd n s p sg rw_ tn x).Ok := by
  rw [shN]; split
  · exact ⟨h.f.ep, h.f.ct, h.f.tag⟩
  · have := shG_ok sd n s p sg
    exact ⟨this.ep, this.ct, turn_len this.tag _⟩
theorem fr_turn {f : Fr} (h : f.tag.length = 16) (sl : Value) (v : B8) : spl (f.cells sl) (0 + 5 + 3 * 1) [U8 v] = Fr.cells { f with tag := f.tag.set 3 v } sl := by
  obtain ⟨kd, sr, ep, ct, b, tag⟩ := f
  match tag, h with
  | a :: b :: c :: d :: r, _ => cases r <;> simp [Fr.cells, spl]
theorem fr_t3 {f : Fr} (h : f.tag.length = 16) (sl : Value) : (f.cells sl)[0 + 5 + 3 * 1]? = some (U8 (f.tag.getD 3 0#8)) := by
  obtain ⟨kd, sr, ep, ct, b, tag⟩ := f
  match tag, h with
  | a :: b :: c :: d :: r, _ => simp [Fr.cells]
theorem mFr_bl (n : Nat) (s : B8) (p : Int) : (mFr n s p).b.length ≤ 29 := by
  show (putB (mRd n s p)).length ≤ 29
  by_cases h : okP (mRd n s p)
  · rw [(put_yes h).1]
    obtain ⟨g, hg, -⟩ := h
    have hg : gotR 5 (bodyR (mRd n s p)) = some g := hg
    rw [gotR5] at hg
    split at hg
    · omega
    · cases hg
  · rw [(put_no h).1]; exact Nat.zero_le _
theorem shF_b {sd : B8} {a : Act21} (_ : a.Ok) : (shF sd a).b.length ≤ 100000 := by
  rw [shF, shN]
  split
  · show (a.x.f.b.take 50).length ≤ 100000
    rw [List.length_take]; omega
  · show (shG sd a.iv.toNat (BitVec.ofInt 8 a.sq) a.at_ a.sg).b.length ≤ 100000
    rw [shG_b]
    have := mFr_bl a.iv.toNat (BitVec.ofInt 8 a.sq) a.at_
    omega
theorem few_min50' (n : Nat) : min (n : Int) 50 = ((min n 50 : Nat) : Int) := by omega
theorem few_all50' {p : Option Addr} {c : Nat} : (if c = 0 then p else p.map (·.add (0 * 1))) = p := by
  cases p with
  | none => split <;> rfl
  | some a => split <;> simp [Addr.add]
theorem tkey_any (sd : B8) (a : Act21) (ha : a.Ok) (kb kc : Nat) (I : List It) (mK : own (some kb) kc 23 32 13 ((key21 sd 13).flatMap bytes) ∈ I) : Spc Tryz.prog 19 #[slO (some kb) 13 kc, .agg a.cells.toArray] I [] (Is (.agg (bytes (keyA sd a)).toArray)) := by
  have hal := act21_len ha
  have hk32 : (bytes a.k).length = 32 := by rw [List.length_map, ha.k]
  have hiv := ha.iv
  refine Spc.enter Tryz.func19 rfl rfl rfl (fun w0 hw0 => ?_)
  refine CW.seq (CW.region (ef := [0, 1]) (bk := []) (RL.box rfl rfl rfl rfl rfl rfl ?_))
  intro b1
  refine RL.alloc (cs := List.replicate 32 (U8 0#8)) Tryz.zeroValue23 rfl rfl rfl rfl rfl ?_
  intro b2
  refine RL.nil (NQ.seq (CW.seq (CW.seq (CW.rg (RL.fieldAddr fa_47_6 rfl rfl rfl rfl (RL.loadq Tryz.isAgg4 rfl rfl rfl rfl ?_))))))
  refine RL.p rfl ?_
  apply RL.orB (d := 7) (dp := 14) (l' := (Sq.of [])) rfl (sK [0, 3, 4] rfl)
  ·
    intro hb3 K3
    refine RL.fieldAddr fa_47_2 rfl rfl rfl rfl (RL.loadq Tryz.isAgg24 rfl rfl rfl rfl ?_)
    refine RL.p rfl (RL.lenS Tryz.runUnderlying39 rfl rfl rfl rfl (RL.conv Tryz.runUnderlying3 Tryz.runUnderlying24 rfl rfl rfl rfl (RL.cast (d := 12) rfl (show Value.int .u32 (IntKind.u32.wrap ((13 : Nat) : Int)) = .int .u32 13 from rfl) ?_)))
    refine RL.p rfl (RL.p rfl ?_)
    exact K3 _ (.cons rfl (sK [0, 3, 4] rfl))
  ·
    intro hb3 K3
    refine RL.p rfl (RL.p rfl (RL.p rfl (RL.p rfl (RL.p rfl (RL.p rfl (RL.p rfl ?_))))))
    exact K3 _ (.cons rfl (sK [0, 3, 4] rfl))
  refine RL.nil (NQ.seq ?_)
  refine CW.cond rfl (fun h => ?_) (fun h => ?_)
  ·
    refine CW.seq (CW.region (ef := [2]) (bk := [2]) (RL.fieldAddr fa_47_9 rfl rfl rfl rfl (RL.loadA Tryz.isAgg23 Tryz.sizeOf23 rfl rfl rfl rfl (vs := bytes a.k) (Rds.cel (by repeat (first | exact List.Mem.head _ | apply List.Mem.tail)) (act_k a ha)) hk32 ?_)))
    refine RL.storeW Tryz.sizeOf23 rfl rfl rfl rfl rfl rfl rfl (ones_map one8 _) (by repeat (first | exact Upd.here | apply Upd.there)) hk32 rfl ?_
    refine RL.nil (NQ.seq (CW.ret (RQ.seq ?_)))
    have hA : keyA sd a = a.k := if_pos (by simpa using h)
    rw [hA]
    exact RQ.post (resW rfl rfl Tryz.isAgg23 Tryz.sizeOf23 (by repeat (first | exact List.Mem.head _ | apply List.Mem.tail)) hk32) (Split.none _) ⟨rfl, rfl, rfl⟩
  ·
    have h' : ¬ (a.rw_ = true ∨ 13 ≤ a.iv) := fun e => by
      rcases e with e | e <;> simp [e] at h
    have hA : keyA sd a = nextN (base21 sd) (12 - a.iv.toNat) := if_neg h'
    have h13 : ¬ 13 ≤ a.iv := fun e => h' (.inr e)
    have hx := key21_get sd (show a.iv.toNat < 13 by omega)
    have hxl := nextN_len (base21_len sd) (12 - a.iv.toNat)
    rw [hA]
    generalize nextN (base21 sd) (12 - a.iv.toNat) = kx at *
    have hx32 : (bytes kx).length = 32 := by rw [List.length_map, hxl]
    have hcv : Value.int .i64 (IntKind.i64.wrap a.iv) = .int .i64 ((a.iv.toNat : Nat) : Int) := by
      rw [Int.toNat_of_nonneg hiv.1]; exact wrapV_i64 (by omega) (by omega)
    refine CW.skip (NQ.seq (CW.seq (CW.region (ef := [6]) (bk := [6]) (RL.p rfl (RL.fieldAddr fa_47_2 rfl rfl rfl rfl (RL.loadq Tryz.isAgg24 rfl rfl rfl rfl ?_))))))
    refine RL.conv Tryz.runUnderlying24 Tryz.runUnderlying3 rfl rfl rfl rfl (RL.cast (d := 20) rfl hcv ?_)
    refine RL.idxAt (j := a.iv.toNat) Tryz.runUnderlying39 Tryz.sizeOf23 rfl rfl rfl rfl rfl (by omega) (by omega) ?_
    refine RL.loadA Tryz.isAgg23 Tryz.sizeOf23 rfl rfl rfl rfl (vs := bytes kx) (own_rdsI mK hx (flatK_len (key21_all sd 13))) hx32 (RL.storeW Tryz.sizeOf23 rfl rfl rfl rfl rfl rfl rfl (ones_map one8 _) (by repeat (first | exact Upd.here | apply Upd.there)) hx32 rfl ?_)
    refine RL.nil (NQ.seq (CW.ok [4] rfl (CW.ret ?_)))
    exact RQ.post (resW rfl rfl Tryz.isAgg23 Tryz.sizeOf23 (by repeat (first | exact List.Mem.head _ | apply List.Mem.tail)) hx32) (Split.none _) ⟨rfl, rfl, rfl⟩
theorem tshown_n (sd : B8) (d t : Int) (n : Nat) (hn : n < 4294967296) (s : B8) (p : Int) (hp : wfk .i64 p) (sg rw_ : Bool) (tn : B8) (x : FrA) (k : List B8) (hx : x.Ok) (hk : k.length = 32) (kb kc : Nat) (I : List It) (mK : own (some kb) kc 23 32 13 ((key21 sd 13).flatMap bytes) ∈ I) (mS : sls x.p 1 x.f.b.length (bytes x.f.b) ∈ I) :
    Spc Tryz.prog 17 #[slO (some kb) 13 kc, .agg (Act21.cells ⟨d, t, n, (s.toNat : Int), p, sg, rw_, (tn.toNat : Int), x, k⟩).toArray] I [] (ShowR (shN sd n s p sg rw_ tn x)) := by
  have hal : (Act21.cells ⟨d, t, n, (s.toNat : Int), p, sg, rw_, (tn.toNat : Int), x, k⟩).length = 61 := by
    have := fr_len hx.f.tag x.sl
    simp [Act21.cells, this, hk]
  have hfl := fr_len hx.f.tag x.sl
  have hm : (x.f.b.take 50).length = min x.f.b.length 50 := by rw [List.length_take]; omega
  have hxb := hx.b
  have hby := OwnB.n hm (bytes_any x.p x.c (x.f.b.take 50) (by omega))
  rw [hm] at hby
  have hle : ∀ F : List It, Lend I F [sls x.p 1 (min x.f.b.length 50) (bytes (x.f.b.take 50))] := fun F => by
    have := Lend.takeB (I := I) (F := F) (p := x.p) (c := x.c) (k := 50) (m := x.f.b) mS hx.c .nil
    rw [few_all50', hm] at this
    exact this
  have vF : ∀ (j : Nat) (u : Value), (x.f.cells x.sl)[j]? = some u → (Act21.cells ⟨d, t, n, (s.toNat : Int), p, sg, rw_, (tn.toNat : Int), x, k⟩)[0 + 8 + j]? = some u := act_f ⟨d, t, n, (s.toNat : Int), p, sg, rw_, (tn.toNat : Int), x, k⟩
  refine Spc.enter Tryz.func17 rfl rfl rfl (fun w0 hw0 => ?_)
  refine CW.seq (CW.region (ef := [0, 1]) (bk := []) (RL.box rfl rfl rfl rfl rfl rfl ?_))
  intro b1
  refine RL.alloc Tryz.zeroValue30 rfl rfl rfl rfl rfl ?_
  intro b2
  refine RL.nil (NQ.seq (CW.seq (CW.seq (CW.rg (RL.fieldAddr fa_47_6 rfl rfl rfl rfl (RL.loadq Tryz.isAgg4 rfl rfl rfl rfl ?_))))))
  refine RL.nil (NQ.seq ?_)
  refine CW.cond rfl (fun h => ?_) (fun h => ?_)
  ·
    have hr : rw_ = true := h
    subst hr
    have hl2 := fr_len (f := x.f.few 50) hx.f.tag (slO (some 0) 0 0)
    have hcap := hx.c
    refine CW.seq (CW.region (ef := [2, 3]) (bk := [3]) (RL.fieldAddr fa_47_8 rfl rfl rfl rfl (RL.loadA Tryz.isAgg30 Tryz.sizeOf30 rfl rfl rfl rfl (vs := x.f.cells x.sl) (Rds.cel (by repeat (first | exact List.Mem.head _ | apply List.Mem.tail)) vF) hfl ?_)))
    refine RL.alloc Tryz.zeroValue30 rfl rfl rfl rfl rfl ?_
    intro b3
    refine RL.storeW Tryz.sizeOf30 rfl rfl rfl rfl rfl rfl rfl (ones_fr _ rfl) (by repeat (first | exact Upd.here | apply Upd.there)) hfl rfl ?_
    refine RL.nil (NQ.seq (CW.seq (CW.region (ef := [7, 9]) (bk := [9]) (RL.fieldAddr fa_30_4 rfl rfl rfl rfl (RL.loadq Tryz.isAgg26 rfl rfl rfl rfl ?_)))))
    refine RL.fieldAddr fa_30_4 rfl rfl rfl rfl (RL.loadq Tryz.isAgg26 rfl rfl rfl rfl ?_)
    refine RL.lenS Tryz.runUnderlying26 rfl rfl rfl rfl (RL.min rfl rfl rfl rfl rfl ?_)
    rw [few_min50']
    refine RL.slice (lo := 0) (hi := min x.f.b.length 50) Tryz.runUnderlying26 Tryz.sizeOf5 rfl rfl rfl rfl rfl rfl (by omega) (by omega) ?_
    rw [few_all50', Nat.sub_zero, Nat.sub_zero]
    refine RL.call (hby) Tryz.call8 rfl rfl rfl rfl rfl (by repeat (first | exact Pick.nil | apply Pick.take | apply Pick.leave)) (hle _) (.inl rfl) ?_
    rintro _ _ _ ⟨ob1, cap1, rfl, rfl, rfl, ho1⟩
    refine RL.fieldAddr fa_30_4 rfl rfl rfl rfl (RL.storeSeg (cs := x.f.cells x.sl) (cs' := (x.f.few 50).cells (slO ob1 (min x.f.b.length 50) cap1)) (vs := [slO ob1 (min x.f.b.length 50) cap1]) [.int .i64 x.f.kd, .int .i64 x.f.sr, .int .u32 (x.f.ep : Int), .int .u64 (x.f.ct : Int)] [x.sl] (bytes x.f.tag) Tryz.sizeOf26 rfl rfl rfl rfl rfl rfl rfl rfl rfl rfl rfl rfl rfl (by repeat (first | exact Upd.here | apply Upd.there)) ?_)
    refine RL.nil (NQ.seq (CW.ok [0, 3, 4, 5] rfl (CW.seq ?_)))
    have hbl : (x.f.few 50).b.length = min x.f.b.length 50 := hm
    refine CW.fact (p := min x.f.b.length 50 ≤ cap1) (fun w hC => own_cap (hC.s.h (own ob1 cap1 5 1 (min x.f.b.length 50) (bytes (x.f.b.take 50))) (by repeat (first | exact List.Mem.head _ | apply List.Mem.tail)))) (fun hcp => ?_)
    refine CW.region (ef := [1]) (bk := [1]) (RL.loadW Tryz.isAgg30 Tryz.sizeOf30 rfl rfl rfl rfl (by repeat (first | exact List.Mem.head _ | apply List.Mem.tail)) (fr_len (f := x.f.few 50) hx.f.tag _) ?_)
    refine RL.storeW Tryz.sizeOf30 rfl rfl rfl rfl rfl rfl rfl (ones_fr _ rfl) (by repeat (first | exact Upd.here | apply Upd.there)) (fr_len (f := x.f.few 50) hx.f.tag _) rfl ?_
    refine RL.nil (NQ.seq (CW.ret (RQ.seq (RQ.rea (fun _ h => h) (H' := [own ob1 cap1 5 1 (min x.f.b.length 50) (bytes (x.f.few 50).b), cel b2 ((x.f.few 50).cells (slO ob1 (min x.f.b.length 50) cap1)) 30]) (by repeat (first | exact Rea.nil | (apply Rea.cons; (solve | (repeat (first | exact Del.here | apply Del.there)))))) ?_))))
    exact RQ.post (resW rfl rfl Tryz.isAgg30 Tryz.sizeOf30 (by repeat (first | exact List.Mem.head _ | apply List.Mem.tail)) (fr_len (f := x.f.few 50) hx.f.tag _)) (.keep (Split.none _)) ⟨ob1, cap1, by rw [← hbl]; rfl, by rw [← hbl] at hcp; exact hcp, rfl, by rw [← hbl]; rfl⟩
  ·
    have hr : rw_ = false := by simpa using h
    subst hr
    have hml : (mFr n s p).tag.length = 16 := rfl
    refine CW.skip (NQ.seq (CW.seq (CW.region (ef := [6, 7, 8]) (bk := [6, 8]) (RL.fieldAddr fa_47_2 rfl rfl rfl rfl (RL.loadq Tryz.isAgg24 rfl rfl rfl rfl ?_)))))
    refine RL.fieldAddr fa_47_3 rfl rfl rfl rfl (RL.loadq Tryz.isAgg5 rfl rfl rfl rfl ?_)
    refine RL.fieldAddr fa_47_4 rfl rfl rfl rfl (RL.loadq Tryz.isAgg45 rfl rfl rfl rfl ?_)
    refine RL.call (tmessage_any n hn s p hp) Tryz.call38 rfl rfl rfl rfl rfl (by repeat (first | exact Pick.nil | apply Pick.take | apply Pick.leave)) .nil (.inr rfl) ?_
    rintro _ _ _ ⟨ob, cap, rfl, hcap, rfl, rfl⟩
    refine RL.alloc Tryz.zeroValue30 rfl rfl rfl rfl rfl ?_
    intro b3
    refine RL.storeW Tryz.sizeOf30 rfl rfl rfl rfl rfl rfl rfl (ones_fr _ rfl) (by repeat (first | exact Upd.here | apply Upd.there)) (fr_len hml _) rfl ?_
    refine RL.nil (NQ.seq (CW.ok [0, 3, 4, 6] rfl (CW.seq (CW.seq (CW.freezeP (A := [_]) (B := [_, _, _]) (.leave (.leave (.leave (.take .nil)))) rfl ?_)))))
    refine CW.genI (fun J hJ => ?_)
    have mA : cel b1 (Act21.cells ⟨d, t, n, (s.toNat : Int), p, sg, false, (tn.toNat : Int), x, k⟩) 47 ∈ J := hJ _ (by simp)
    have mK2 : own (some kb) kc 23 32 13 ((key21 sd 13).flatMap bytes) ∈ J := hJ _ (by simp [mK])
    clear hJ
    have rI : RdI J ⟨b1, 0 + 2, none⟩ (.int .u32 (n : Int)) := ⟨fun _ => Rd.celI mA rfl⟩
    have rS : RdI J ⟨b1, 0 + 5, none⟩ (.bool sg) := ⟨fun _ => Rd.celI mA rfl⟩
    have rT : RdI J ⟨b1, 0 + 7, none⟩ (U8 tn) := ⟨fun _ => Rd.celI mA rfl⟩
    have hmb : (mFr n s p).b.length ≤ 900000 := by have := mFr_bl n s p; omega
    have hcv : Value.int .i64 (IntKind.i64.wrap (n : Int)) = .int .i64 (n : Int) := wrapV_i64 (by omega) (by omega)
    refine CW.rg (RL.fieldAddr fa_47_5 rfl rfl rfl rfl (RL.loadq Tryz.isAgg4 rfl rfl rfl rfl ?_))
    refine RL.p rfl ?_
    apply RL.andB (d := 30) (dp := 37) (l' := (Sq.of [])) rfl (sK [0, 3, 4, 6] rfl)
    ·
      intro hb3 K3
      refine RL.fieldAddr fa_47_2 rfl rfl rfl rfl (RL.loadq Tryz.isAgg24 rfl rfl rfl rfl ?_)
      refine RL.p rfl (RL.lenS Tryz.runUnderlying39 rfl rfl rfl rfl (RL.conv Tryz.runUnderlying3 Tryz.runUnderlying24 rfl rfl rfl rfl (RL.cast (d := 35) rfl (show Value.int .u32 (IntKind.u32.wrap ((13 : Nat) : Int)) = .int .u32 13 from rfl) ?_)))
      refine RL.p rfl (RL.p rfl ?_)
      exact K3 _ (.cons rfl (sK [0, 3, 4, 6] rfl))
    ·
      intro hb3 K3
      refine RL.p rfl (RL.p rfl (RL.p rfl (RL.p rfl (RL.p rfl (RL.p rfl (RL.p rfl ?_))))))
      exact K3 _ (.cons rfl (sK [0, 3, 4, 6] rfl))
    refine RL.nil (NQ.seq ?_)
    refine CW.cond rfl (fun hg => ?_) (fun hg => ?_)
    ·
      have hg' : sg = true ∧ n < 13 := by
        simp at hg
        exact ⟨hg.1, by have := hg.2; omega⟩
      have hx := key21_get sd hg'.2
      have hxl := nextN_len (base21_len sd) (12 - n)
      have hG : shN sd n s p sg false tn x = { (mFr n s p).tsign (nextN (base21 sd) (12 - n)) n with tag := turnT ((mFr n s p).tsign (nextN (base21 sd) (12 - n)) n).tag tn } := by
        rw [shN, shG, if_pos hg']; rfl
      rw [hG]
      generalize nextN (base21 sd) (12 - n) = kx at *
      have hx32 : (bytes kx).length = 32 := by rw [List.length_map, hxl]
      have hGt := ((mFr n s p).tsign_ok (mFr_ok n s p) kx n).tag
      refine CW.regionD (Sq.of [0, 1, 2, 3, 4, 5, 6, 7, 8, 9, 10]) [10] [10] [0, 1, 3, 4, 6] mixed (by kernel_rfl) ?_
      refine RL.p rfl (RL.fieldAddr fa_47_2 rfl rfl rfl rfl (RL.loadq Tryz.isAgg24 rfl rfl rfl rfl ?_))
      refine RL.conv Tryz.runUnderlying24 Tryz.runUnderlying3 rfl rfl rfl rfl (RL.cast (d := 41) rfl hcv ?_)
      refine RL.idxAt (j := n) Tryz.runUnderlying39 Tryz.sizeOf23 rfl rfl rfl rfl rfl (by omega) (by omega) ?_
      refine RL.loadA Tryz.isAgg23 Tryz.sizeOf23 rfl rfl rfl rfl (vs := bytes kx) (own_rdsI mK2 hx (flatK_len (key21_all sd 13))) hx32 (RL.fieldAddr fa_47_2 rfl rfl rfl rfl (RL.loadq Tryz.isAgg24 rfl rfl rfl rfl ?_))
      refine RL.loadW Tryz.isAgg30 Tryz.sizeOf30 rfl rfl rfl rfl (by repeat (first | exact List.Mem.head _ | apply List.Mem.tail)) (fr_len hml _) ?_
      refine RL.callv (rtsign_any kx n (mFr n s p) (ob.map fun b => ⟨b, 0, none⟩) cap (mFr n s p).b.length hxl hn (mFr_ok n s p) rfl hmb) Tryz.call11 rfl rfl rfl rfl (Lend.own (by repeat (first | exact List.Mem.head _ | apply List.Mem.tail)) .nil) ?_
      refine RL.storeW Tryz.sizeOf30 rfl rfl rfl rfl rfl rfl rfl (ones_fr _ rfl) (by repeat (first | exact Upd.here | apply Upd.there)) (fr_len hGt _) (fr_len hml _) ?_
      refine RL.nil (NQ.seq (CW.ok [3, 4, 6] rfl (CW.seq (CW.region (ef := [8]) (bk := [8]) (RL.fieldAddr fa_30_5 rfl rfl rfl rfl (RL.idxAAt (j := 3) Tryz.runUnderlying28 Tryz.sizeOf5 rfl rfl rfl rfl rfl rfl (by decide) ?_))))))
      refine RL.load Tryz.isAgg5 rfl rfl rfl rfl (v := U8 (((mFr n s p).tsign kx n).tag.getD 3 0#8)) (Rd.get (by repeat (first | exact List.Mem.head _ | apply List.Mem.tail)) (fr_t3 hGt _)) ?_
      refine RL.fieldAddr fa_47_7 rfl rfl rfl rfl (RL.loadq Tryz.isAgg5 rfl rfl rfl rfl ?_)
      refine RL.bv8 (a := ((mFr n s p).tsign kx n).tag.getD 3 0#8) (b := tn) xor8 rfl rfl rfl rfl rfl (RL.fieldAddr fa_30_5 rfl rfl rfl rfl (RL.idxAAt (j := 3) Tryz.runUnderlying28 Tryz.sizeOf5 rfl rfl rfl rfl rfl rfl (by decide) ?_))
      refine RL.storeX (vs := [U8 (((mFr n s p).tsign kx n).tag.getD 3 0#8 ^^^ tn)]) (fr_turn hGt _ _) Tryz.sizeOf5 rfl rfl rfl rfl rfl rfl rfl rfl (by repeat (first | exact Upd.here | apply Upd.there)) (by rw [fr_len hGt]; show 0 + 5 + 3 * 1 + 1 ≤ 21; decide) ?_
      refine RL.nil (NQ.seq (CW.ok [4, 6] rfl (CW.seq (CW.region (ef := [1]) (bk := [1]) (RL.loadW Tryz.isAgg30 Tryz.sizeOf30 rfl rfl rfl rfl (by repeat (first | exact List.Mem.head _ | apply List.Mem.tail)) (fr_len (turn_len hGt tn) _) ?_)))))
      refine RL.storeW Tryz.sizeOf30 rfl rfl rfl rfl rfl rfl rfl (ones_fr _ rfl) (by repeat (first | exact Upd.here | apply Upd.there)) (fr_len (turn_len hGt tn) _) rfl ?_
      refine RL.nil (NQ.seq (CW.ret (RQ.rea (fun _ h => h) (H' := [bodyO ⟨mFr n s p, ob, cap⟩, cel b2 (Fr.cells { ((mFr n s p).tsign kx n) with tag := turnT ((mFr n s p).tsign kx n).tag tn } (slO ob (mFr n s p).b.length cap)) 30]) (by repeat (first | exact Rea.nil | (apply Rea.cons; (solve | (repeat (first | exact Del.here | apply Del.there)))))) ?_)))
      exact RQ.post (resW rfl rfl Tryz.isAgg30 Tryz.sizeOf30 (by repeat (first | exact List.Mem.head _ | apply List.Mem.tail)) (fr_len (turn_len hGt tn) _)) (.keep (Split.none _)) ⟨ob, cap, rfl, hcap, rfl, rfl⟩
    ·
      have hg' : ¬ (sg = true ∧ n < 13) := fun e => by simp [e.1] at hg; omega
      have hG : shN sd n s p sg false tn x = { mFr n s p with tag := turnT (mFr n s p).tag tn } := by
        rw [shN, shG, if_neg hg']; rfl
      rw [hG]
      have hGt := (mFr_ok n s p).tag
      refine CW.skip (NQ.seq (CW.seq (CW.region (ef := [8]) (bk := [8]) (RL.fieldAddr fa_30_5 rfl rfl rfl rfl (RL.idxAAt (j := 3) Tryz.runUnderlying28 Tryz.sizeOf5 rfl rfl rfl rfl rfl rfl (by decide) ?_)))))
      refine RL.load Tryz.isAgg5 rfl rfl rfl rfl (v := U8 ((mFr n s p).tag.getD 3 0#8)) (Rd.get (by repeat (first | exact List.Mem.head _ | apply List.Mem.tail)) (fr_t3 hGt _)) ?_
      refine RL.fieldAddr fa_47_7 rfl rfl rfl rfl (RL.loadq Tryz.isAgg5 rfl rfl rfl rfl ?_)
      refine RL.bv8 (a := (mFr n s p).tag.getD 3 0#8) (b := tn) xor8 rfl rfl rfl rfl rfl (RL.fieldAddr fa_30_5 rfl rfl rfl rfl (RL.idxAAt (j := 3) Tryz.runUnderlying28 Tryz.sizeOf5 rfl rfl rfl rfl rfl rfl (by decide) ?_))
      refine RL.storeX (vs := [U8 ((mFr n s p).tag.getD 3 0#8 ^^^ tn)]) (fr_turn hGt _ _) Tryz.sizeOf5 rfl rfl rfl rfl rfl rfl rfl rfl (by repeat (first | exact Upd.here | apply Upd.there)) (by rw [fr_len hGt]; show 0 + 5 + 3 * 1 + 1 ≤ 21; decide) ?_
      refine RL.nil (NQ.seq (CW.ok [4, 6] rfl (CW.seq (CW.region (ef := [1]) (bk := [1]) (RL.loadW Tryz.isAgg30 Tryz.sizeOf30 rfl rfl rfl rfl (by repeat (first | exact List.Mem.head _ | apply List.Mem.tail)) (fr_len (turn_len hGt tn) _) ?_)))))
      refine RL.storeW Tryz.sizeOf30 rfl rfl rfl rfl rfl rfl rfl (ones_fr _ rfl) (by repeat (first | exact Upd.here | apply Upd.there)) (fr_len (turn_len hGt tn) _) rfl ?_
      refine RL.nil (NQ.seq (CW.ret (RQ.rea (fun _ h => h) (H' := [bodyO ⟨mFr n s p, ob, cap⟩, cel b2 (Fr.cells { (mFr n s p) with tag := turnT (mFr n s p).tag tn } (slO ob (mFr n s p).b.length cap)) 30]) (by repeat (first | exact Rea.nil | (apply Rea.cons; (solve | (repeat (first | exact Del.here | apply Del.there)))))) ?_)))
      exact RQ.post (resW rfl rfl Tryz.isAgg30 Tryz.sizeOf30 (by repeat (first | exact List.Mem.head _ | apply List.Mem.tail)) (fr_len (turn_len hGt tn) _)) (.keep (Split.none _)) ⟨ob, cap, rfl, hcap, rfl, rfl⟩
theorem tshown_any (sd : B8) (a : Act21) (ha : a.Ok) (kb kc : Nat) (I : List It) (mK : own (some kb) kc 23 32 13 ((key21 sd 13).flatMap bytes) ∈ I) (mS : sls a.x.p 1 a.x.f.b.length (bytes a.x.f.b) ∈ I) :
    Spc Tryz.prog 17 #[slO (some kb) 13 kc, .agg a.cells.toArray] I [] (ShowR (shF sd a)) := by
  obtain ⟨hx, hk, hiv, hsq, htn, -, hp⟩ := ha
  obtain ⟨d, t, iv, sq, p, sg, rw_, tn, x, k⟩ := a
  dsimp only at hx hk hiv hsq htn hp mS
  obtain ⟨n, rfl⟩ : ∃ n : Nat, iv = (n : Int) := ⟨iv.toNat, by omega⟩
  obtain ⟨s8, rfl⟩ : ∃ b : B8, sq = (b.toNat : Int) := ⟨BitVec.ofNat 8 sq.toNat, by rw [BitVec.toNat_ofNat]; omega⟩
  obtain ⟨t8, rfl⟩ : ∃ b : B8, tn = (b.toNat : Int) := ⟨BitVec.ofNat 8 tn.toNat, by rw [BitVec.toNat_ofNat]; omega⟩
  have h1 : ∀ b : B8, BitVec.ofInt 8 (b.toNat : Int) = b := fun b => by simp
  have h2 : shF sd ⟨d, t, n, (s8.toNat : Int), p, sg, rw_, (t8.toNat : Int), x, k⟩ = shN sd n s8 p sg rw_ t8 x := by
    show shN sd (n : Int).toNat (BitVec.ofInt 8 (s8.toNat : Int)) p sg rw_ (BitVec.ofInt 8 (t8.toNat : Int)) x = _
    rw [h1, h1, Int.toNat_natCast]
  rw [h2]
  exact tshown_n sd d t n (by omega) s8 p hp sg rw_ t8 x k hx hk kb kc I mK mS
end Go.Proofs.YtbdnebedmdoehaaGreat

namespace Go.Proofs.YtbdnebedmdoehaaGreat
open Go.PK
theorem ones_app : ∀ (a b : List Value), ones (a ++ b) = (ones a && ones b)
  | [], _ => rfl
  | x :: a, b => by
    show (x.oneCell' && ones (a ++ b)) = (x.oneCell' && ones a && ones b)
    rw [ones_app a b, Bool.and_assoc]
theorem ones_act21 (a : Act21) : ones a.cells = true := by
  have h1 : ones (a.x.f.cells a.x.sl) = true := ones_fr _ rfl
  have h2 : ones (bytes a.k) = true := ones_map one8 _
  show (true && (true && (true && (true && (true && (true && (true && (true && ones (a.x.f.cells a.x.sl ++ bytes a.k))))))))) = true
  rw [ones_app, h1, h2]; rfl
theorem flat21 {L : List Act21} (hL : ∀ x ∈ L, x.Ok) : ∀ x ∈ L, x.cells.length = 61 := fun x hx => act21_len (hL x hx)
theorem act21_rdsN {I : List It} {L : List Act21} {a : Addr} {i : Nat} {x : Act21} (hL : ∀ x ∈ L, x.Ok) (hm : sls (some a) 61 L.length (L.flatMap Act21.cells) ∈ I) (hx : L[i]? = some x) : RdsN I (a.add (i * 61)) 61 x.cells :=
  ⟨fun _ => (Rds.sls hm).part (fun q u hu => by
    have hlt : q < 61 := by have := (List.getElem?_eq_some_iff.1 hu).1; rwa [act21_len (hL x (List.mem_of_getElem? hx))] at this
    rw [get_flat (flat21 hL) hx hlt]; exact hu), act21_len (hL x (List.mem_of_getElem? hx))⟩
theorem its21 {L : List Act21} {x : Act21} {J : List It} (hJ : ∀ y ∈ L.flatMap Act21.its, y ∈ J) (hx : x ∈ L) : sls x.x.p 1 x.x.f.b.length (bytes x.x.f.b) ∈ J := hJ _ (List.mem_flatMap.2 ⟨x, hx, by simp⟩)
theorem spc_mono {f : FuncId} {args : Array Value} {I H : List It} {R R' : Value → List It → List It → Prop} (h : Spc Tryz.prog f args I H R) (hR : ∀ v I' H', R v I' H' → R' v I' H') : Spc Tryz.prog f args I H R' := fun w hw =>
  (h w hw).mono fun _ _ ⟨v, I', H', he, hv, h⟩ => ⟨v, I', H', he, hR _ _ _ hv, h⟩
theorem tnew_yes (s : Sch) (hs : s.Ok) (k : List B8) (hk : k.length = 32) : Spc Tryz.prog 14 #[.agg #[.int .i64 s.st, .int .i64 s.ln, .int .i64 s.lg, .int .i64 s.of], .agg (bytes k).toArray] [] []
    (fun v I' H' => ∃ B : RBk, B.s = s ∧ v = .tuple #[.pointer (some ⟨B.b, 0, none⟩), .int .i64 0] ∧ I' = [] ∧ H' = RTI B (RBk.z0 k)) :=
  spc_mono (tnew_any s k hk) fun v I' H' ⟨h1, h2⟩ => by
    rcases h2 with ⟨_, B, h3, h4, h5⟩ | ⟨h3, _⟩
    · exact ⟨B, h3, h4, h1, h5⟩
    · exact absurd hs h3
theorem tnew_no (s : Sch) (hs : ¬ s.Ok) (k : List B8) (hk : k.length = 32) : Spc Tryz.prog 14 #[.agg #[.int .i64 s.st, .int .i64 s.ln, .int .i64 s.lg, .int .i64 s.of], .agg (bytes k).toArray] [] [] (Is (.tuple #[.pointer none, .int .i64 2])) :=
  spc_mono (tnew_any s k hk) fun v I' H' ⟨h1, h2⟩ => by
    rcases h2 with ⟨h3, _⟩ | ⟨_, h4, h5⟩
    · exact absurd h3 hs
    · exact ⟨h4, h1, h5⟩
set_option maxRecDepth 100000
noncomputable def rSch : Rdr Tryz.prog 37 Sch :=
  Rdr.struct (fs := [Field.mk "Start" 3 0 false "" "" 0, Field.mk "Length" 3 1 false "" "" 8, Field.mk "Lag" 3 2 false "" "" 16, Field.mk "Off" 3 3 false "" "" 24].toArray) (tot := 4) (α := Int × Int × Int × Int × Unit)
    (by kernel_rfl) (by kernel_rfl)
    (.cons (k := 1) rInt rfl (by kernel_rfl) (by decide) (.cons (k := 1) rInt rfl (by kernel_rfl) (by decide) (.cons (k := 1) rInt rfl (by kernel_rfl) (by decide) (.cons (k := 1) rInt rfl (by kernel_rfl) (by decide) .nil))))
    Sch.cells (fun _ => []) (fun _ => True)
    (fun ⟨a, b, c, d, _⟩ _ => ⟨⟨a, b, c, d⟩, rfl, trivial, fun y hy => by simp at hy⟩)
    (fun _ _ => rfl)
noncomputable def rActs21 : Rdr Tryz.prog 38 (Sl Act21) := rAct21.slice 61 (by kernel_rfl) (by kernel_rfl) (by kernel_rfl) (by decide) (List.flatMap Act21.cells) (fun _ => rfl)
end Go.Proofs.YtbdnebedmdoehaaGreat
