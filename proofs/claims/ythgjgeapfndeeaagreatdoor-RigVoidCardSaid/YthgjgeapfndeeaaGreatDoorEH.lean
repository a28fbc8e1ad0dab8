import Derived.Test.YthgjgeapfndeeaaGreatDoorEG
import Derived.Test.YthgjgeapfndeeaaGreatDoorCrc
import Derived.Test.YthgjgeapfndeeaaGreatDoorCA
import Derived.Test.YthgjgeapfndeeaaGreatDoorConcatB
import Derived.Test.YthgjgeapfndeeaaGreatDoorKX
import Derived.Test.YthgjgeapfndeeaaGreatDoorKY
set_option linter.unusedVariables false
set_option linter.unusedSimpArgs false
/-
  EH, part 1: functions that the evaluator takes from their contracts.
-/
namespace Go.PK
def okF (P : Program) (f : Nat) : Bool := match P.funcs[f]? with
  | some fn => fn.body.isSome && !(fn.name == "runtime.NumGoroutine")
  | none => false
theorem okF_ok {P : Program} (f : Nat) (h : okF P f = true) (vs : Array Value) (w : World) : (callFunc f vs).run P w = .ok (.enter f vs) w := by
  unfold okF at h
  split at h
  · next fn hf =>
    rw [Bool.and_eq_true] at h
    obtain ⟨c, hc⟩ := Option.isSome_iff_exists.1 h.1
    have h1 : fn.name ≠ "runtime.NumGoroutine" := by simpa using h.2
    simp [callFunc, hf, h1, hc]
  · cases h
/-- Calls of a machine that enters what has a body. -/
theorem gcalls_okF {P : Program} {an : Nat → Nat → Option RA} {hk : Nat → Option (Heap → Heap → Nat → List AV → Option (AV × Heap × Nat))} (hm : P.follows .mixedOrders = true) (hh : ∀ f g, hk f = some g → ∀ hb h nx args v h' nx', g hb h nx args = some (v, h', nx') → FOk P f args h hb v h') (d : Nat) : CallOk P (gF ⟨P, an, hk, okF P⟩ stE d) :=
  gcalls_ok (C := ⟨P, an, hk, okF P⟩) hm hh (fun f h => okF_ok f h) d
theorem FOk.quiet {P : Program} {f : FuncId} {args : List AV} {h hb : Heap} {v : AV} (hO : okF P f = true) (hv : ∀ A : Nat → Nat → Prop, v.Wf A)
    (hS : ∀ θ w, Mem θ h w → (∀ x ∈ args, x.Wf (AH θ h)) → ∃ I, (∀ x ∈ I, x.A w) ∧ Spc P f (args.map (AV.dec θ)).toArray I [] (Is (v.dec θ))) : FOk P f args h hb v h where
  run := okF_ok f hO
  call hi θ w hm hwa := by
    obtain ⟨I, hI, S⟩ := hS θ w hm hwa
    refine (S w ⟨hI, (fun _ h => by cases h), List.nodup_nil, (fun _ _ h => by cases h)⟩).mono ?_
    rintro e w' ⟨u, I', H', rfl, ⟨rfl, -, -⟩, hk, -, -, -⟩
    exact ⟨_, rfl, ⟨θ, rfl, .refl θ h, .grow hk, hm.grow hk, hv _, fun _ hx _ => hx⟩, hi⟩
theorem cell_blk {w : World} {a : Addr} {u : Value} (h : w.cell? a = some u) : a.block < w.heap.size := by
  apply Decidable.byContradiction
  intro hn
  have : w.heap[a.block]? = none := by rw [Array.getElem?_eq_none_iff]; omega
  simp [World.cell?, this] at h
/-- A slice's row, told. -/
theorem row_sls {θ : Vl} {h : Heap} {w : World} {sz n : Nat} {xs : List AV} {q : AV} (hm : Mem θ h w) (hr : rowA sz q h = some (n, xs)) (hs : 0 < sz) : ∃ p c, q.dec θ = .slice p n c ∧ xs.length = n * sz ∧ (sls p sz n (xs.map (AV.dec θ))).A w := by
  obtain ⟨p, c, h1, h2, h3, h4⟩ := rowA_ok hm hr
  refine ⟨p, c, h1, h2, ?_⟩
  cases p with
  | none => exact ⟨by rw [List.length_map, h2], h3 rfl⟩
  | some a =>
    refine ⟨by rw [List.length_map, h2], fun hn => ?_, h4 a rfl⟩
    have hl : 0 < (xs.map (AV.dec θ)).length := by rw [List.length_map, h2]; exact Nat.mul_pos (Nat.pos_of_ne_zero hn) hs
    have := cell_blk (h4 a rfl 0 _ (List.getElem?_eq_getElem hl))
    have hbl : (a.add 0).block = a.block := by unfold Addr.add; split <;> rfl
    rw [hbl] at this; exact this
end Go.PK
namespace Go.Proofs.YthgjgeapfndeeaaGreatDoor
open Go.PK
abbrev Hk := Heap → Heap → Nat → List AV → Option (AV × Heap × Nat)
theorem avB_dec (θ : Vl) (l : List B8) : (l.map avB).map (AV.dec θ) = bytes l := by
  rw [List.map_map]
  exact List.map_congr_left fun b _ => by simp [AV.dec]
theorem avB_wf (A : Nat → Nat → Prop) (l : List B8) : AV.WfL A (l.map avB) := wfL_iff.2 fun x hx => by
  obtain ⟨b, -, rfl⟩ := List.mem_map.1 hx
  trivial
/-! ### Bytes taken -/
noncomputable def onU8 {β : Type} (v : AV) (k : Nat → Option β) : Option β := onI v fun q m => onNat m fun b => bo (Nat.beq (kN q) 1 && Nat.blt b 256) (k b) none
theorem onU8_inv {β : Type} {v : AV} {k : Nat → Option β} {r : β} (h : onU8 v k = some r) : ∃ b : B8, v = avB b ∧ k b.toNat = some r := by
  obtain ⟨q, n, rfl, h1⟩ := onI_inv h
  obtain ⟨m, rfl, h2⟩ := onNat_inv h1
  obtain ⟨h3, h4⟩ := bo_inv h2
  rw [Bool.and_eq_true] at h3
  have hq : q = .u8 := kN_inj (k' := .u8) h3.1
  have hm : m < 256 := Nat.le_of_ble_eq_true h3.2
  subst hq
  refine ⟨BitVec.ofNat 8 m, ?_, ?_⟩
  · show AV.val (.int .u8 (Int.ofNat m)) = AV.val (.int .u8 (((BitVec.ofNat 8 m).toNat : Nat) : Int))
    rw [BitVec.toNat_ofNat, Nat.mod_eq_of_lt hm]; rfl
  · rw [BitVec.toNat_ofNat, Nat.mod_eq_of_lt hm]; exact h4
noncomputable def hornN (l : List AV) : Nat → Nat → Option (Nat × Nat) := List.rec (motive := fun _ => Nat → Nat → Option (Nat × Nat)) (fun a n => some (a, n)) (fun x _ ih a n => onU8 x fun b => ih (Nat.add (Nat.mul a 256) b) (Nat.succ n)) l
theorem hornN_ok : ∀ (l : List AV) (p : List B8) (r : Nat × Nat), hornN l (num p) p.length = some r → ∃ bs, l = bs.map avB ∧ r = (num (p ++ bs), (p ++ bs).length)
  | [], p, r, h => by
    refine ⟨[], rfl, ?_⟩
    rw [List.append_nil]; exact (Option.some.inj h).symm
  | x :: l, p, r, h => by
    obtain ⟨b, rfl, h2⟩ := onU8_inv (show onU8 x (fun b => hornN l (Nat.add (Nat.mul (num p) 256) b) (Nat.succ p.length)) = some r from h)
    have h2 : hornN l (num (p ++ [b])) (p ++ [b]).length = some r := by rw [num_snoc, List.length_append]; exact h2
    obtain ⟨bs, rfl, h3⟩ := hornN_ok l (p ++ [b]) r h2
    exact ⟨b :: bs, rfl, by rw [h3]; simp⟩
noncomputable def key32 (v : AV) : Option Nat := onAgg v fun l => ob (hornN l 0 0) fun p => bo (Nat.beq p.2 32) (some p.1) none
theorem key32_ok {v : AV} {K : Nat} (h : key32 v = some K) : ∃ bs : List B8, bs.length = 32 ∧ v = .agg (bs.map avB) ∧ K = num bs := by
  obtain ⟨l, rfl, h1⟩ := onAgg_inv h
  obtain ⟨p, h2, h3⟩ := ob_inv h1
  obtain ⟨h4, h5⟩ := bo_inv h3
  obtain ⟨bs, rfl, rfl⟩ := hornN_ok l [] p h2
  exact ⟨bs, Nat.eq_of_beq_eq_true h4, rfl, (Option.some.inj h5).symm⟩
theorem key_dec (θ : Vl) (bs : List B8) : (AV.agg (bs.map avB)).dec θ = .agg (bytes bs).toArray := by
  simp only [AV.dec, decL_map]; rw [avB_dec]
noncomputable def rowH (h : Heap) (x : AV) : Option (Nat × Nat) := ob (rowC 1 x h) fun p => hornN p.2 0 0
theorem rowH_ok {h : Heap} {x : AV} {r : Nat × Nat} (hr : rowH h x = some r) : ∃ bs : List B8, rowA 1 x h = some (bs.length, bs.map avB) ∧ r = (num bs, bs.length) := by
  obtain ⟨⟨n, l⟩, h1, h2⟩ := ob_inv hr
  obtain ⟨bs, rfl, h3⟩ := hornN_ok l [] r h2
  have h4 := rowC_ok h1
  have : n = bs.length := by
    have hl : (bs.map avB).length = n * 1 := by
      have h5 := h4
      unfold rowA at h5
      split at h5
      · next id off len k c =>
        split at h5
        · next l' hl' =>
          obtain ⟨q, hq, he⟩ := Option.map_eq_some_iff.1 h5
          cases he
          exact (takeL_eq hq).2
        · cases h5
      · simp only [Option.some.injEq, Prod.mk.injEq] at h5; rw [← h5.1, ← h5.2]; rfl
      · simp only [Option.some.injEq, Prod.mk.injEq] at h5; rw [← h5.1, ← h5.2]; rfl
      · cases h5
    simpa using hl.symm
  subst this
  exact ⟨bs, h4, h3⟩
/-! ### Keys derived, the next key, tags -/
def lbOf (s : ByteArray) : List B8 := s.data.toList.map UInt8.toBitVec
theorem txt_lbOf (s : ByteArray) : txt (lbOf s) = s := by
  unfold txt lbOf
  rw [List.map_map]
  have : (UInt8.ofBitVec ∘ UInt8.toBitVec : UInt8 → UInt8) = id := by funext x; rfl
  rw [this, List.map_id]
theorem num_tail (n : Nat) (h : n < 18446744073709551616) : num (0#8 :: be8 n) = n := by
  rw [num_cons, num_be8 n h]; simp
noncomputable def hkDerive : Hk := fun _ h nx a => match a with
  | [k, .val (.string s), .val (.int .u64 (.ofNat n))] => ob (key32 k) fun k => bo (Nat.blt n 18446744073709551616 && Nat.blt (lbOf s).length 1000) (some (.agg (by32 (macN k (Nat.add (lbOf s).length 9) (Nat.add (Nat.mul (num (lbOf s)) 4722366482869645213696) n))), h, nx)) none
  | _ => none
theorem derive_num (bs lb : List B8) (n : Nat) (hk : bs.length = 32) (hl : lb.length < 1000) (hn : n < 18446744073709551616) : by32 (macN (num bs) (Nat.add lb.length 9) (Nat.add (Nat.mul (num lb) 4722366482869645213696) n)) = (deriveK bs lb n).map avB := by
  have h1 : (lb ++ 0#8 :: be8 n).length = lb.length + 9 := by simp [be8_length]
  have h2 : num (lb ++ 0#8 :: be8 n) = num lb * 4722366482869645213696 + n := by
    rw [num_append, num_tail n hn]; simp [be8_length]
  have h3 := mac_num bs hk (lb ++ 0#8 :: be8 n) (by rw [h1]; omega)
  rw [h1, h2] at h3
  rw [show (deriveK bs lb n).map avB = by32 (num (macCode bs (lb ++ 0#8 :: be8 n))) from (by32_eq _ (macCode_len _ _)).symm, h3]
  rfl
theorem hkDerive_ok {f : Nat} (hO : okF Tryz.prog f = true) (hS : ∀ (k : List B8), k.length = 32 → ∀ (lb : List B8), lb.length ≤ 10000000 → ∀ n : Nat, n < 18446744073709551616 → Spc Tryz.prog f #[.agg (bytes k).toArray, .string (txt lb), .int .u64 (n : Int)] [] [] (Is (.agg (bytes (deriveK k lb n)).toArray)))
    {hb h h' : Heap} {nx nx' : Nat} {args : List AV} {v : AV} (he : hkDerive hb h nx args = some (v, h', nx')) : FOk Tryz.prog f args h hb v h' := by
  unfold hkDerive at he
  split at he
  · next k s n =>
    obtain ⟨K, h1, h2⟩ := ob_inv he
    obtain ⟨h3, h4⟩ := bo_inv h2
    rw [Bool.and_eq_true] at h3
    obtain ⟨bs, hl, rfl, rfl⟩ := key32_ok h1
    have hn : n < 18446744073709551616 := Nat.le_of_ble_eq_true h3.1
    have hlb : (lbOf s).length < 1000 := Nat.le_of_ble_eq_true h3.2
    rw [derive_num bs (lbOf s) n hl hlb hn] at h4
    cases h4
    refine .quiet hO (fun A => avB_wf A _) fun θ w hm hwa => ⟨[], (fun _ h => by cases h), ?_⟩
    have := hS bs hl (lbOf s) (by omega) n hn
    rw [txt_lbOf] at this
    rw [key_dec]
    simp only [List.map_cons, List.map_nil, key_dec]
    exact this
  · cases he
noncomputable def hkNext : Hk := fun _ h nx a => match a with
  | [k] => ob (key32 k) fun k => some (.agg (by32 (shaN ivN 0 45 (Nat.add (Nat.mul (num label) 115792089237316195423570985008687907853269984665640564039457584007913129639936) k))), h, nx)
  | _ => none
theorem hkNext_ok {f : Nat} (hO : okF Tryz.prog f = true) (hS : ∀ (k : List B8), k.length = 32 → Spc Tryz.prog f #[.agg (bytes k).toArray] [] [] (Is (.agg (bytes (nextK k)).toArray)))
    {hb h h' : Heap} {nx nx' : Nat} {args : List AV} {v : AV} (he : hkNext hb h nx args = some (v, h', nx')) : FOk Tryz.prog f args h hb v h' := by
  unfold hkNext at he
  split at he
  · next k =>
    obtain ⟨K, h1, h2⟩ := ob_inv he
    obtain ⟨bs, hl, rfl, rfl⟩ := key32_ok h1
    have h3 : by32 (shaN ivN 0 45 (Nat.add (Nat.mul (num label) 115792089237316195423570985008687907853269984665640564039457584007913129639936) (num bs))) = (nextK bs).map avB := by
      have h4 : (label ++ bs).length = 45 := by rw [List.length_append, hl]; rfl
      have h5 := sha_num (label ++ bs) (by rw [h4]; decide)
      rw [h4, num_append, hl, show (256 : Nat) ^ 32 = 115792089237316195423570985008687907853269984665640564039457584007913129639936 by kernel_rfl] at h5
      rw [show (nextK bs).map avB = by32 (num (sha (label ++ bs))) from (by32_eq _ (nextK_len _)).symm, h5]
      rfl
    rw [h3] at h2
    cases h2
    refine .quiet hO (fun A => avB_wf A _) fun θ w hm hwa => ⟨[], (fun _ h => by cases h), ?_⟩
    rw [key_dec]
    simp only [List.map_cons, List.map_nil, key_dec]
    exact hS bs hl
  · cases he
noncomputable def hkTag : Hk := fun _ h nx a => match a with
  | [k, p] => ob (key32 k) fun k => ob (rowH h p) fun p => bo (Nat.blt p.2 1000000) (some (.agg (by16 (macN k p.2 p.1)), h, nx)) none
  | _ => none
theorem hkTag_ok {f : Nat} (hO : okF Tryz.prog f = true) (hS : ∀ (k : List B8), k.length = 32 → ∀ (q : Option Addr) (m cap : Nat) (b : List B8), b.length = m → m ≤ 100000000 → Spc Tryz.prog f #[.agg (bytes k).toArray, .slice q m cap] [sls q 1 m (bytes b)] [] (Is (.agg (bytes (macTag k b)).toArray)))
    {hb h h' : Heap} {nx nx' : Nat} {args : List AV} {v : AV} (he : hkTag hb h nx args = some (v, h', nx')) : FOk Tryz.prog f args h hb v h' := by
  unfold hkTag at he
  split at he
  · next k p =>
    obtain ⟨K, h1, h2⟩ := ob_inv he
    obtain ⟨r, h3, h4⟩ := ob_inv h2
    obtain ⟨h5, h6⟩ := bo_inv h4
    obtain ⟨bs, hl, rfl, rfl⟩ := key32_ok h1
    obtain ⟨ms, hr, rfl⟩ := rowH_ok h3
    have hlt : ms.length < 1000000 := Nat.le_of_ble_eq_true h5
    have h7 : by16 (macN (num bs) ms.length (num ms)) = (macTag bs ms).map avB := by
      rw [← mac_num bs hl ms (by omega), by16_eq _ (macCode_len _ _)]; rfl
    have h6 : some ((AV.agg (by16 (macN (num bs) ms.length (num ms))), h, nx) : AV × Heap × Nat) = some (v, h', nx') := h6
    rw [h7] at h6
    cases h6
    refine .quiet hO (fun A => avB_wf A _) fun θ w hm hwa => ?_
    obtain ⟨q, c, e1, e2, e3⟩ := row_sls hm hr (by decide)
    rw [avB_dec] at e3
    refine ⟨[sls q 1 ms.length (bytes ms)], fun x hx => (by rw [List.mem_singleton.1 hx]; exact e3), ?_⟩
    rw [key_dec]
    simp only [List.map_cons, List.map_nil, key_dec, e1]
    exact hS bs hl q ms.length c ms rfl (by omega)
  · cases he
end Go.Proofs.YthgjgeapfndeeaaGreatDoor

/-
  EH, part 2: sums, and whether a tag is right.
-/
namespace Go.Proofs.YthgjgeapfndeeaaGreatDoor
open Go.PK
/-! ### Sums -/
noncomputable def crcBN : Nat → Nat → Nat
  | 0 => fun r => r
  | n + 1 => fun r => frcN (fun r => crcBN n (bo (Nat.beq (Nat.mod r 2) 1) (Nat.xor (Nat.div r 2) 3988292384) (Nat.div r 2))) r
theorem crcB_nat (r : B32) : bo (Nat.beq (Nat.mod r.toNat 2) 1) (Nat.xor (Nat.div r.toNat 2) 3988292384) (Nat.div r.toNat 2) = (crcB r).toNat := by
  have hd : (r / 2#32).toNat = Nat.div r.toNat 2 := by rw [BitVec.toNat_udiv]; rfl
  have hm : (r % 2#32).toNat = Nat.mod r.toNat 2 := by rw [BitVec.toNat_umod]; rfl
  by_cases h : r % 2#32 = 1#32
  · have h1 : Nat.mod r.toNat 2 = 1 := by rw [← hm, h]; rfl
    rw [h1, ← crc_odd h, BitVec.toNat_xor, hd]; rfl
  · have h1 : Nat.mod r.toNat 2 = 0 := by
      rcases Nat.mod_two_eq_zero_or_one r.toNat with h0 | h0
      · exact h0
      · exact absurd (BitVec.eq_of_toNat_eq (by rw [hm]; exact h0)) h
    rw [h1, ← crc_even h, hd]; rfl
theorem crcN_comm : ∀ (n : Nat) (r : B32), crcN n (crcB r) = crcB (crcN n r)
  | 0, _ => rfl
  | n + 1, r => by rw [crcN, crcN, crcN_comm n r]
theorem crcBN_ok : ∀ (n : Nat) (r : B32), crcBN n r.toNat = (crcN n r).toNat
  | 0, _ => rfl
  | n + 1, r => by
    rw [crcBN]
    dsimp only
    rw [frcN_eq, crcB_nat, crcBN_ok n, crcN_comm]; rfl
noncomputable def crcL (l : List AV) : Nat → Option Nat := List.rec (motive := fun _ => Nat → Option Nat) (fun r => some r) (fun x _ ih r => onU8 x fun b => ih (crcBN 8 (Nat.xor r b))) l
theorem crcL_ok : ∀ (l : List AV) (r : B32) (c : Nat), crcL l r.toNat = some c → ∃ bs, l = bs.map avB ∧ c = (crcA r bs).toNat
  | [], r, c, h => ⟨[], rfl, (Option.some.inj h).symm⟩
  | x :: l, r, c, h => by
    obtain ⟨b, rfl, h2⟩ := onU8_inv (show onU8 x (fun b => crcL l (crcBN 8 (Nat.xor r.toNat b))) = some c from h)
    have e : Nat.xor r.toNat b.toNat = (r ^^^ b.setWidth 32).toNat := by
      have := b.isLt
      rw [BitVec.toNat_xor, BitVec.toNat_setWidth, Nat.mod_eq_of_lt (by omega)]; rfl
    rw [e, crcBN_ok] at h2
    obtain ⟨bs, rfl, h3⟩ := crcL_ok l _ c h2
    exact ⟨b :: bs, rfl, h3⟩
noncomputable def hkAdd : Hk := fun _ h nx a => match a with
  | [.val (.int .u32 (.ofNat r)), p] => bo (Nat.blt r 4294967296) (ob (rowC 1 p h) fun q => bo (Nat.blt q.1 1000000) (ob (crcL q.2 r) fun c => frcN (fun c => some (.val (.int .u32 (.ofNat c)), h, nx)) c) none) none
  | _ => none
theorem hkAdd_ok {f : Nat} (hO : okF Tryz.prog f = true) (hS : ∀ (r : B32) (p : Option Addr) (c n : Nat) (l : List B8), l.length = n → n ≤ 1000000 → Spc Tryz.prog f #[U32 r, .slice p n c] [sls p 1 n (bytes l)] [] (Is (U32 (crcA r l))))
    {hb h h' : Heap} {nx nx' : Nat} {args : List AV} {v : AV} (he : hkAdd hb h nx args = some (v, h', nx')) : FOk Tryz.prog f args h hb v h' := by
  unfold hkAdd at he
  split at he
  · next r p =>
    obtain ⟨h1, h2⟩ := bo_inv he
    obtain ⟨⟨n, l⟩, h3, h4⟩ := ob_inv h2
    obtain ⟨h5, h6⟩ := bo_inv h4
    obtain ⟨c, h7, h8⟩ := ob_inv h6
    rw [frcN_eq] at h8
    have hr : r < 4294967296 := Nat.le_of_ble_eq_true h1
    have hn : n < 1000000 := Nat.le_of_ble_eq_true h5
    have hrr : (BitVec.ofNat 32 r).toNat = r := by rw [BitVec.toNat_ofNat]; exact Nat.mod_eq_of_lt hr
    obtain ⟨bs, hbs, rfl⟩ := crcL_ok l (BitVec.ofNat 32 r) c (by rw [hrr]; exact h7)
    subst hbs
    have h9 := rowC_ok h3
    cases h8
    refine .quiet hO (fun A => trivial) fun θ w hm hwa => ?_
    obtain ⟨q, cc, e1, e2, e3⟩ := row_sls hm h9 (by decide)
    rw [avB_dec] at e3
    have hl : bs.length = n := by simpa using e2
    refine ⟨[sls q 1 n (bytes bs)], fun x hx => (by rw [List.mem_singleton.1 hx]; exact e3), ?_⟩
    have := hS (BitVec.ofNat 32 r) q cc n bs hl (by omega)
    simp only [U32, hrr] at this
    simp only [List.map_cons, List.map_nil, e1, AV.dec]
    exact this
  · cases he
/-! ### Whether a tag is right -/
theorem num_inj : ∀ {l m : List B8}, l.length = m.length → num l = num m → l = m
  | [], [], _, _ => rfl
  | [], _ :: _, h, _ => by cases h
  | _ :: _, [], h, _ => by cases h
  | a :: l, b :: m, h, e => by
    have hl : l.length = m.length := by simpa using h
    rw [num_cons, num_cons, hl] at e
    have h1 := num_lt l
    have h2 := num_lt m
    rw [hl] at h1
    have hp : 0 < 256 ^ m.length := Nat.pos_of_ne_zero (by simp)
    have ha : a.toNat = b.toNat := by
      have := congrArg (· / 256 ^ m.length) e
      rw [Nat.add_comm, Nat.add_mul_div_right _ _ hp, Nat.div_eq_of_lt h1, Nat.add_comm (b.toNat * _), Nat.add_mul_div_right _ _ hp, Nat.div_eq_of_lt h2] at this
      simpa using this
    rw [ha] at e
    rw [BitVec.eq_of_toNat_eq ha, num_inj hl (by omega)]
noncomputable def rowsH (h : Heap) (l : List AV) : Nat → Nat → Option (Nat × Nat) := List.rec (motive := fun _ => Nat → Nat → Option (Nat × Nat)) (fun a n => some (a, n)) (fun x _ ih a n => ob (rowC 1 x h) fun p => ob (hornN p.2 a n) fun q => ih q.1 q.2) l
/-- Slices that show these bytes. -/
inductive Rows (h : Heap) : List AV → List (List B8) → Prop
  | nil : Rows h [] []
  | cons {x : AV} {bs : List B8} {n : Nat} {l : List AV} {bb : List (List B8)} (hx : rowA 1 x h = some (n, bs.map avB)) (hl : Rows h l bb) : Rows h (x :: l) (bs :: bb)
theorem rowsH_ok {h : Heap} : ∀ (l : List AV) (p : List B8) (r : Nat × Nat), rowsH h l (num p) p.length = some r → ∃ bb, Rows h l bb ∧ r = (num (p ++ bb.flatten), (p ++ bb.flatten).length)
  | [], p, r, hr => ⟨[], .nil, by rw [List.flatten_nil, List.append_nil]; exact (Option.some.inj hr).symm⟩
  | x :: l, p, r, hr => by
    obtain ⟨⟨n, q⟩, h1, h2⟩ := ob_inv (show ob (rowC 1 x h) (fun p' => ob (hornN p'.2 (num p) p.length) fun q => rowsH h l q.1 q.2) = some r from hr)
    obtain ⟨q2, h3, h4⟩ := ob_inv h2
    obtain ⟨bs, rfl, rfl⟩ := hornN_ok q p q2 h3
    obtain ⟨bb, h5, h6⟩ := rowsH_ok l (p ++ bs) r h4
    exact ⟨bs :: bb, .cons (rowC_ok h1) h5, by rw [h6, List.flatten_cons, List.append_assoc]⟩
theorem Rows.parts {h : Heap} {θ : Vl} {w : World} (hm : Mem θ h w) : ∀ {l : List AV} {bb : List (List B8)}, Rows h l bb → ∃ qs : List Part, l.map (AV.dec θ) = qs.map Part.v ∧ (∀ x ∈ qs.map Part.i, x.A w) ∧ joined qs = bb.flatten
  | _, _, .nil => ⟨[], rfl, (fun _ h => by cases h), rfl⟩
  | _, _, .cons (bs := bs) (n := n) hx hl => by
    obtain ⟨qs, h1, h2, h3⟩ := hl.parts hm
    obtain ⟨p, c, e1, e2, e3⟩ := row_sls hm hx (by decide)
    rw [avB_dec] at e3
    have hn : bs.length = n := by simpa using e2
    subst hn
    refine ⟨⟨p, c, bs⟩ :: qs, by rw [List.map_cons, List.map_cons, e1, h1], fun x hx => ?_, by rw [joined, List.flatMap_cons, List.flatten_cons, ← h3]; rfl⟩
    rw [List.map_cons] at hx
    rcases List.mem_cons.1 hx with rfl | hx
    · exact e3
    · exact h2 x hx
noncomputable def hkRight : Hk := fun _ h nx a => match a with
  | [k, .agg t, p] => ob (key32 k) fun k => ob (hornN t 0 0) fun t => bo (Nat.beq t.2 16) (ob (rowC 1 p h) fun q => bo (Nat.blt q.1 1000) (ob (rowsH h q.2 0 0) fun m => bo (Nat.blt m.2 1000000) (ob (vB (Nat.beq t.1 (Nat.shiftRight (macN k m.2 m.1) 128))) fun v => some (v, h, nx)) none) none) none
  | _ => none
theorem hkRight_ok {f : Nat} (hO : okF Tryz.prog f = true) (hS : ∀ (k : List B8), k.length = 32 → ∀ (tg : List B8), tg.length = 16 → ∀ (pp : Option Addr) (qn cap : Nat) (qs : List Part), qs.length = qn → qn ≤ 1000000 → (joined qs).length ≤ 100000000 → Spc Tryz.prog f #[.agg (bytes k).toArray, .agg (bytes tg).toArray, .slice pp qn cap] (sls pp 1 qn (qs.map Part.v) :: qs.map Part.i) [] (Is (.bool (tg == macTag k (joined qs)))))
    {hb h h' : Heap} {nx nx' : Nat} {args : List AV} {v : AV} (he : hkRight hb h nx args = some (v, h', nx')) : FOk Tryz.prog f args h hb v h' := by
  unfold hkRight at he
  split at he
  · next k t p =>
    obtain ⟨K, h1, h2⟩ := ob_inv he
    obtain ⟨T, h3, h4⟩ := ob_inv h2
    obtain ⟨h5, h6⟩ := bo_inv h4
    obtain ⟨⟨n, l⟩, h7, h8⟩ := ob_inv h6
    obtain ⟨h9, h10⟩ := bo_inv h8
    obtain ⟨M, h11, h12⟩ := ob_inv h10
    obtain ⟨h13, h14⟩ := bo_inv h12
    obtain ⟨u, h15, h16⟩ := ob_inv h14
    obtain ⟨ks, hk, rfl, rfl⟩ := key32_ok h1
    obtain ⟨ts, rfl, rfl⟩ := hornN_ok t [] T h3
    obtain ⟨bb, hbb, rfl⟩ := rowsH_ok l [] M h11
    have ht : ts.length = 16 := Nat.eq_of_beq_eq_true h5
    have hn : n < 1000 := Nat.le_of_ble_eq_true h9
    have hm1 : bb.flatten.length < 1000000 := Nat.le_of_ble_eq_true h13
    have hu := vB_ok h15
    have hv : Nat.beq (num ([] ++ ts)) (Nat.shiftRight (macN (num ks) ([] ++ bb.flatten).length (num ([] ++ bb.flatten))) 128) = (ts == macTag ks bb.flatten) := by
      rw [List.nil_append, List.nil_append, ← mac_num ks hk _ (by omega)]
      have e := num_part [] ((macCode ks bb.flatten).take 16) ((macCode ks bb.flatten).drop 16)
      have hl := macCode_len ks bb.flatten
      rw [List.nil_append, List.take_append_drop, List.length_drop, List.length_take, hl] at e
      have e2 : Nat.shiftRight (num (macCode ks bb.flatten)) 128 = num (macTag ks bb.flatten) := by
        have hlt := num_lt (macCode ks bb.flatten)
        rw [hl] at hlt
        show num (macCode ks bb.flatten) >>> 128 = num ((macCode ks bb.flatten).take 16)
        rw [← e, Nat.shiftRight_eq_div_pow]
        simp only [Nat.reduceSub, Nat.reducePow, Nat.reduceLeDiff, Nat.min_eq_left] at hlt ⊢
        omega
      rw [e2, Bool.eq_iff_iff, beq_iff_eq, Nat.beq_eq]
      exact ⟨fun h => num_inj (by rw [ht, macTag, List.length_take, hl]; rfl) h, fun h => by rw [h]⟩
    rw [hv] at hu
    subst hu
    cases h16
    have h17 := rowC_ok h7
    refine .quiet hO (fun A => trivial) fun θ w hm hwa => ?_
    obtain ⟨qs, g1, g2, g3⟩ := hbb.parts hm
    obtain ⟨q, cc, e1, e2, e3⟩ := row_sls hm h17 (by decide)
    rw [g1] at e3
    have hlq : qs.length = n := by
      have := congrArg List.length g1
      rw [List.length_map, List.length_map] at this
      rw [← this]; simpa using e2
    refine ⟨sls q 1 n (qs.map Part.v) :: qs.map Part.i, fun x hx => ?_, ?_⟩
    · rcases List.mem_cons.1 hx with rfl | hx
      · exact e3
      · exact g2 x hx
    · have := hS ks hk ts ht q n cc qs hlq (by omega) (by rw [g3]; omega)
      rw [g3] at this
      simp only [List.map_cons, List.map_nil, key_dec, e1]
      exact this
  · cases he
end Go.Proofs.YthgjgeapfndeeaaGreatDoor

/-
  EH, part 3: bytes put together.
-/
namespace Go.Proofs.YthgjgeapfndeeaaGreatDoor
open Go.PK
noncomputable def flatH (h : Heap) (l : List AV) : Option (List AV) := List.rec (motive := fun _ => Option (List AV)) (some []) (fun x _ ih => ob (rowC 1 x h) fun p => ob ih fun r => some (appL p.2 r)) l
noncomputable def all8 (l : List AV) : Bool := List.rec (motive := fun _ => Bool) true (fun x _ ih => Option.rec (motive := fun _ => Bool) false (fun _ => ih) (onU8 x fun b => some b)) l
theorem all8_ok : ∀ (l : List AV), all8 l = true → ∃ bs : List B8, l = bs.map avB
  | [], _ => ⟨[], rfl⟩
  | x :: l, h => by
    cases hx : onU8 x (fun b => some b) with
    | none =>
      have h : (Option.rec (motive := fun _ => Bool) false (fun _ => all8 l) (onU8 x fun b => some b)) = true := h
      rw [hx] at h; cases h
    | some b =>
      have h : (Option.rec (motive := fun _ => Bool) false (fun _ => all8 l) (onU8 x fun b => some b)) = true := h
      rw [hx] at h
      obtain ⟨bs, rfl⟩ := all8_ok l h
      obtain ⟨b', rfl, -⟩ := onU8_inv hx
      exact ⟨b' :: bs, rfl⟩
theorem map_split : ∀ {l m : List AV} {bs : List B8}, l ++ m = bs.map avB → ∃ b1 b2, l = b1.map avB ∧ m = b2.map avB ∧ bs = b1 ++ b2
  | [], m, bs, h => ⟨[], bs, rfl, h, rfl⟩
  | x :: l, m, [], h => by cases h
  | x :: l, m, b :: bs, h => by
    rw [List.cons_append, List.map_cons, List.cons.injEq] at h
    obtain ⟨b1, b2, h1, h2, h3⟩ := map_split h.2
    exact ⟨b :: b1, b2, by rw [h.1, h1]; rfl, h2, by rw [h3]; rfl⟩
theorem flatH_ok {h : Heap} : ∀ (l r : List AV) (bs : List B8), flatH h l = some r → r = bs.map avB → ∃ bb, Rows h l bb ∧ bs = bb.flatten
  | [], r, bs, h1, h2 => by
    cases h1
    cases bs with
    | nil => exact ⟨[], .nil, rfl⟩
    | cons b bs => cases h2
  | x :: l, r, bs, h1, h2 => by
    obtain ⟨⟨n, q⟩, h3, h4⟩ := ob_inv (show ob (rowC 1 x h) (fun p => ob (flatH h l) fun r => some (appL p.2 r)) = some r from h1)
    obtain ⟨r2, h5, h6⟩ := ob_inv h4
    have h6 : some (appL q r2) = some r := h6
    rw [appL_eq] at h6
    cases h6
    obtain ⟨b1, b2, rfl, rfl, rfl⟩ := map_split h2
    obtain ⟨bb, h7, h8⟩ := flatH_ok l _ b2 h5 rfl
    exact ⟨b1 :: bb, .cons (rowC_ok h3) h7, by rw [List.flatten_cons, h8]⟩
noncomputable def lenN (l : List AV) (n : Nat) (k : Nat → Option (AV × Heap × Nat)) : Option (AV × Heap × Nat) := List.rec (motive := fun _ => Nat → Option (AV × Heap × Nat)) (fun n => k n) (fun _ _ ih n => frcN ih (Nat.succ n)) l n
theorem lenN_eq : ∀ (l : List AV) (n : Nat) (k : Nat → Option (AV × Heap × Nat)), lenN l n k = k (n + l.length)
  | [], n, k => rfl
  | x :: l, n, k => by
    show frcN (fun n => lenN l n k) (Nat.succ n) = _
    rw [frcN_eq, lenN_eq l, List.length_cons]
    congr 1; omega
noncomputable def hkConcat : Hk := fun _ h nx a => match a with
  | [p] => ob (rowC 1 p h) fun q => bo (Nat.blt q.1 1000) (ob (flatH h q.2) fun l => bo (all8 l) (lenN l 0 fun n => bo (Nat.blt 0 n && Nat.blt n 1000000) (ob (newF nx (.own 5 1 n l) (.sl nx 0 n false 0) h) fun r => frcN (fun n' => some (r.1, r.2, n')) (Nat.succ nx)) none) none) none
  | _ => none
theorem hkConcat_ok {f : Nat} (hO : okF Tryz.prog f = true) (hS : ∀ (pp : Option Addr) (cap n : Nat) (ps : List Part), ps.length = n → n ≤ 1000000 → (joined ps).length ≤ 1000000 → Spc Tryz.prog f #[.slice pp n cap] (sls pp 1 n (ps.map Part.v) :: ps.map Part.i) [] (OwnX (joined ps)))
    {hb h h' : Heap} {nx nx' : Nat} {args : List AV} {v : AV} (he : hkConcat hb h nx args = some (v, h', nx')) : FOk Tryz.prog f args h hb v h' := by
  unfold hkConcat at he
  split at he
  · next p =>
    obtain ⟨⟨n, l⟩, h1, h2⟩ := ob_inv he
    obtain ⟨h3, h4⟩ := bo_inv h2
    obtain ⟨r, h5, h6⟩ := ob_inv h4
    obtain ⟨h7, h8⟩ := bo_inv h6
    rw [lenN_eq] at h8
    obtain ⟨h9, h10⟩ := bo_inv h8
    rw [Bool.and_eq_true] at h9
    obtain ⟨⟨v1, h1'⟩, h11, h12⟩ := ob_inv h10
    rw [frcN_eq] at h12
    rw [newF_eq] at h11
    cases h12
    obtain ⟨bs, rfl⟩ := all8_ok r h7
    obtain ⟨bb, hbb, rfl⟩ := flatH_ok l _ bs h5 rfl
    have hn : n < 1000 := Nat.le_of_ble_eq_true h3
    rw [Nat.zero_add, List.length_map] at h9 h11
    have hp : 0 < bb.flatten.length := Nat.le_of_ble_eq_true h9.1
    have hlt : bb.flatten.length < 1000000 := Nat.le_of_ble_eq_true h9.2
    obtain ⟨h0, rfl, hg⟩ := newB_inv h11
    have hrow := rowC_ok h1
    refine ⟨okF_ok f hO, fun hi θ w hm hwa => ?_⟩
    obtain ⟨qs, g1, g2, g3⟩ := hbb.parts hm
    obtain ⟨q, cc, e1, e2, e3⟩ := row_sls hm hrow (by decide)
    rw [g1] at e3
    have hlq : qs.length = n := by
      have := congrArg List.length g1
      rw [List.length_map, List.length_map] at this
      rw [← this]; simpa using e2
    have S := hS q cc n qs hlq (by omega) (by rw [g3]; omega)
    rw [g3] at S
    simp only [List.map_cons, List.map_nil, e1]
    refine (S w ⟨fun x hx => ?_, (fun _ h => by cases h), List.nodup_nil, (fun _ _ h => by cases h)⟩).mono ?_
    · rcases List.mem_cons.1 hx with rfl | hx
      · exact e3
      · exact g2 x hx
    · rintro e w' ⟨u, I', H', rfl, hr, hk, hs, hb', -⟩
      obtain ⟨ob', cap, rfl, hH⟩ := hr
      obtain ⟨hI, rfl, -⟩ := hH
      have hA := hs.h _ (List.mem_singleton_self _)
      cases ob' with
      | none => obtain ⟨-, h2, -⟩ := hA; omega
      | some b =>
        have hcap : bb.flatten.length ≤ cap := hA.2.1
        refine ⟨_, rfl, ?_, inv_new hi h0 hg⟩
        refine post_new hm h0 hg (b, cap) hk ?_ (fun x hx => ?_) (fun x hx => ?_) ?_ ?_
        · simp only [itA, upd_at, avB_dec]; exact hA
        · simp only [itA, upd_at] at hx
          have hx' : x = b := by simpa [own] using hx
          subst hx'
          rcases hb' x (by simp [own, bss]) with h | h
          · cases h
          · exact h
        · exact wfL_iff.1 (avB_wf _ bb.flatten) x hx
        · exact ⟨by rw [hg, if_pos rfl]; rfl, by rw [upd_at]; exact hcap⟩
        · simp only [AV.dec, upd_at]; rfl
  · cases he
end Go.Proofs.YthgjgeapfndeeaaGreatDoor

/-
  EH, part 4: several blocks turned; a source enters an epoch.
-/
namespace Go.PK
section
variable {P : Program} {θ : Vl} {h h' hb : Heap} {w w' : World} {v : AV} {u : Value}
/-- Blocks have turned. -/
theorem aft_turns (ids : List Nat) (hm : Mem θ h w) (hg : ∀ j, j ∉ ids → h'.get j = h.get j)
    (ht : ∀ j ∈ ids, hb.get j = none ∧ ∃ b b', h.get j = some b ∧ h'.get j = some b' ∧ (itA θ j b').A w' ∧ (∀ x ∈ (itA θ j b').bs, x ∈ (itA θ j b).bs) ∧ ∀ x ∈ b'.vals, x.Wf (AH θ h))
    (hk : KeepP (fun x => ∃ j ∈ ids, ∃ b, h.get j = some b ∧ x ∈ (itA θ j b).bs) w w') (hwf : v.Wf (AH θ h)) (hu : u = v.dec θ) : Aft θ h hb w v h' u w' θ := by
  have hx : Ext θ h θ h' := ⟨fun k hk => ⟨rfl, by
    by_cases e : k ∈ ids
    · obtain ⟨-, b, b', -, h2, -⟩ := ht k e
      rw [h2]; rfl
    · rw [hg k e]; exact hk⟩⟩
  -- what stands at a place, and what stood there
  have old : ∀ k c, h'.get k = some c → ∃ c0, h.get k = some c0 ∧ (∀ x ∈ (itA θ k c).bs, x ∈ (itA θ k c0).bs) ∧ (k ∉ ids → c = c0) := fun k c hk => by
    by_cases e : k ∈ ids
    · obtain ⟨-, b, b', h1, h2, -, h4, -⟩ := ht k e
      rw [h2] at hk; cases hk
      exact ⟨b, h1, h4, fun hn => absurd e hn⟩
    · rw [hg k e] at hk
      exact ⟨c, hk, fun _ h => h, fun _ => rfl⟩
  refine ⟨hu, hx, hk.mono (fun x _ ⟨j, hj, b, h1, h2⟩ => ⟨j, b, (ht j hj).1, h1, h2⟩), ⟨fun k c hk' => ?_, fun k c hk' => ?_, fun k c k' c' hk1 hk2 hne x hx1 hx2 => ?_⟩, hwf.mono hx.ah, fun x ⟨k, c, g1, g2, g3⟩ hlt => ?_⟩
  · by_cases e : k ∈ ids
    · obtain ⟨-, b, b', h1, h2, h3, -⟩ := ht k e
      rw [h2] at hk'; cases hk'; exact h3
    · rw [hg k e] at hk'
      have hA := hm.ok k c hk'
      refine (itA θ k c).fr w w' (fun x hx => ?_) hA
      refine hk.block x ((itA θ k c).lt w hA x hx) ?_
      rintro ⟨j, hj, b, h1, h2⟩
      exact hm.dj k c j b hk' h1 (fun e' => e (e' ▸ hj)) x hx h2
  · by_cases e : k ∈ ids
    · obtain ⟨-, b, b', h1, h2, -, -, h5⟩ := ht k e
      rw [h2] at hk'; cases hk'
      exact fun x hx' => (h5 x hx').mono hx.ah
    · rw [hg k e] at hk'
      exact fun x hx' => (hm.wf k c hk' x hx').mono hx.ah
  · obtain ⟨c0, h1, h2, -⟩ := old k c hk1
    obtain ⟨c0', h1', h2', -⟩ := old k' c' hk2
    exact hm.dj k c0 k' c0' h1 h1' hne x (h2 x hx1) (h2' x hx2)
  · obtain ⟨c0, h1, h2, -⟩ := old k c g2
    exact ⟨k, c0, g1, h1, h2 x g3⟩
end
theorem mapI_good {r : Nat} {good good' : Value → Prop} {c : List (Value × Value)} {w : World} (h : (mapI r good c).A w) (hg : ∀ p ∈ c, good' p.1) : (mapI r good' c).A w := by
  obtain ⟨es, clock, h1, h2, h3, -, h5, h6⟩ := h
  exact ⟨es, clock, h1, h2, h3, hg, h5, h6⟩
end Go.PK
namespace Go.Proofs.YthgjgeapfndeeaaGreatDoor
open Go.PK
def plKS : KS := .flat [.int .i64, .int .u32]
theorem pl_good {v : Value} (h : plKS.good v) : goodP v := by
  obtain ⟨cs, hf, rfl⟩ := h
  match cs, hf with
  | [a, b], hf =>
    obtain ⟨h1, h2, -⟩ := hf
    cases a <;> simp only [EK.fit] at h1
    cases b <;> simp only [EK.fit] at h2
    obtain ⟨rfl, -⟩ := h1
    obtain ⟨rfl, -⟩ := h2
    exact ⟨_, _, rfl⟩
/-- No key of this source. -/
def noSrc (s : Nat) : List (AV × AV) → Bool
  | [] => true
  | (.agg [.val (.int .i64 (.ofNat t)), .val (.int .u32 (.ofNat _))], _) :: r => !Nat.beq t s && noSrc s r
  | _ => false
theorem noSrc_ok {s : Nat} {θ : Vl} : ∀ {c : List (AV × AV)}, noSrc s c = true → ∀ p ∈ c.map (decP θ), ∀ a e : Int, p.1 = pl a e → a ≠ (s : Int)
  | [], _, p, hp, _, _, _ => by cases hp
  | x :: r, h, p, hp, a, e, he => by
    unfold noSrc at h
    split at h
    · next heq => cases heq
    · next t m u r' heq =>
      cases heq
      rw [Bool.and_eq_true] at h
      rcases List.mem_cons.1 hp with rfl | hp
      · have he : (AV.agg [.val (.int .i64 (Int.ofNat t)), .val (.int .u32 (Int.ofNat m))]).dec θ = pl a e := he
        have he2 : pl (Int.ofNat t) (Int.ofNat m) = pl a e := by rw [← he]; simp [AV.dec, AV.decL, pl]
        have h1 : (Int.ofNat t) = a := (pl_inj.1 he2).1
        subst h1
        intro h2
        have h3 : Nat.beq t s = true := by
          have : t = s := Int.ofNat.inj h2
          rw [this]; exact Nat.beq_refl _
        rw [h3] at h; exact Bool.noConfusion h.1
      · exact noSrc_ok h.2 p hp a e he
    · cases h
theorem look_absent {k : Value} : ∀ {c : List (Value × Value)}, (∀ p ∈ c, p.1 ≠ k) → lookV k c = none
  | [], _ => rfl
  | (a, u) :: c, h => by
    rw [lookV, if_neg (fun e => h (a, u) (List.mem_cons_self ..) e.symm)]
    exact look_absent fun p hp => h p (List.mem_cons_of_mem _ hp)
noncomputable def appP (c : List (AV × AV)) (p : AV × AV) : List (AV × AV) := List.rec (motive := fun _ => List (AV × AV)) [p] (fun x _ ih => x :: ih) c
theorem appP_eq : ∀ (c : List (AV × AV)) (p : AV × AV), appP c p = c ++ [p]
  | [], _ => rfl
  | x :: c, p => by
    show x :: appP c p = _
    rw [appP_eq c p]; rfl
noncomputable def hkEnter : Hk := fun hb h nx a => match a with
  | [.ptr r 0, .val (.int .i64 (.ofNat s)), .ptr x 0, .val (.int .u32 (.ofNat e)), .val (.int .i64 g)] => match h.get r, h.get x with
    | some (.cells T [.map _, .map m]), some (.cells U l) => match h.get m with
      | some (.map ks c) => bo (decide (T = 554) && (decide (U = 562) && (decide (ks = plKS) && (Nat.blt s 1000 && Nat.blt e 4294967296)))) (bo (noSrc s c) (bo ((hb.get r).isNone && ((hb.get x).isNone && (hb.get m).isNone)) (ob ((takeC 32).f l) fun kl => ob (key32 (.agg kl)) fun K =>
          match (dropC 32).f l with
          | [.val (.int .u32 (.ofNat _)), .val (.int .i64 _)] => ob (h.set (.map ks (appP c (.agg [.val (.int .i64 (.ofNat s)), .val (.int .u32 (.ofNat e))], .agg (by32 (macN K 14 (Nat.add (Nat.mul (num epochL) 4722366482869645213696) e)))))) m) fun h1 => ob (h1.set (.cells U (appL kl [.val (.int .u32 (.ofNat e)), .val (.int .i64 g)])) x) fun h2 => some (.tup [], h2, nx)
          | _ => none) none) none) none
      | _ => none
    | _, _ => none
  | _ => none
end Go.Proofs.YthgjgeapfndeeaaGreatDoor

/-
  EH, part 5: a source enters an epoch: the hook is sound.
-/
namespace Go.Proofs.YthgjgeapfndeeaaGreatDoor
open Go.PK
theorem pl_fits {s e : Nat} (hs : s < 1000) (he : e < 4294967296) : plKS.good (pl (s : Int) (e : Int)) := by
  refine ⟨[.int .i64 (s : Int), .int .u32 (e : Int)], ⟨⟨rfl, ?_⟩, ⟨rfl, ?_⟩, trivial⟩, rfl⟩ <;>
    (simp only [wfk, Lit.wf, IntKind.min, IntKind.max, IntKind.signed, IntKind.bits, Bool.and_eq_true, decide_eq_true_eq, Bool.false_eq_true, if_false, if_true]; omega)
theorem hkEnter_ok {f : Nat} (hO : okF Tryz.prog f = true)
    (hS : ∀ (r m1 m2 : Nat) (o : One) (c0 : List (Value × Value)) (e' : Nat) (g' : Int), o.k.length = 32 → e' < 4294967296 → (∀ p ∈ c0, ∀ s e : Int, p.1 = pl s e → s ≠ (o.s : Int)) →
      Spc Tryz.prog f #[.pointer (some ⟨r, 0, none⟩), .int .i64 (o.s : Int), .pointer (some ⟨o.b, 0, none⟩), .int .u32 (e' : Int), .int .i64 g'] [] [cel r [.map (some m1), .map (some m2)] 554, mapI m2 goodP c0, oneI o]
        (fun v I' H' => v = .tuple #[] ∧ I' = [] ∧ H' = [mapI m2 goodP (setV (pl (o.s : Int) (e' : Int)) (keyE o.k e') c0), cel r [.map (some m1), .map (some m2)] 554, oneI { o with e := e', g := g' }]))
    {hb h h' : Heap} {nx nx' : Nat} {args : List AV} {v : AV} (he : hkEnter hb h nx args = some (v, h', nx')) : FOk Tryz.prog f args h hb v h' := by
  unfold hkEnter at he
  split at he
  · next r s x e g =>
    split at he
    · next T i1 m U l hr hx0 =>
      split at he
      · next ks c hm0 =>
        obtain ⟨h1, h2⟩ := bo_inv he
        obtain ⟨h3, h4⟩ := bo_inv h2
        obtain ⟨h5, h6⟩ := bo_inv h4
        obtain ⟨kl, h7, h8⟩ := ob_inv h6
        obtain ⟨K, h9, h10⟩ := ob_inv h8
        split at h10
        · next e0 g0 hd =>
          obtain ⟨t1, h11, h12⟩ := ob_inv h10
          obtain ⟨t2, h13, h14⟩ := ob_inv h12
          cases h14
          simp only [Bool.and_eq_true, decide_eq_true_eq] at h1
          obtain ⟨rfl, rfl, rfl, q1, q2⟩ := h1
          have hs : s < 1000 := Nat.le_of_ble_eq_true q1
          have hee : e < 4294967296 := Nat.le_of_ble_eq_true q2
          rw [Bool.and_eq_true, Bool.and_eq_true, Option.isNone_iff_eq_none, Option.isNone_iff_eq_none, Option.isNone_iff_eq_none] at h5
          obtain ⟨n1, n2, n3⟩ := h5
          rw [takeC_eq] at h7
          obtain ⟨e1, e2⟩ := takeL_eq h7
          rw [dropC_eq] at hd
          obtain ⟨bs, hbs, hkl, rfl⟩ := key32_ok h9
          have hkl : kl = bs.map avB := by injection hkl
          have hl : l = bs.map avB ++ [.val (.int .u32 (.ofNat e0)), .val (.int .i64 g0)] := by
            rw [← hkl, e1, ← hd, List.take_append_drop]
          subst hl
          have hg1 := Tr.set_get h11
          have hg2 := Tr.set_get h13
          have hrm : r ≠ m := fun e => by subst e; rw [hr] at hm0; cases hm0
          have hxm : x ≠ m := fun e => by subst e; rw [hx0] at hm0; cases hm0
          have hrx : r ≠ x := fun e => by
            subst e; rw [hr] at hx0
            have := congrArg (fun b => match b with | some (Blk.cells _ l) => l.length | _ => 0) hx0
            simp [hbs] at this
          have hdk := derive_num bs epochL e hbs (by decide) (by omega)
          have hdk : by32 (macN (num bs) 14 (Nat.add (Nat.mul (num epochL) 4722366482869645213696) e)) = (deriveK bs epochL e).map avB := hdk
          rw [hdk, appP_eq] at hg1
          rw [appL_eq, hkl] at hg2
          refine ⟨okF_ok f hO, fun hi θ w hm hwa => ?_⟩
          have hAr := hm.ok r _ hr
          have hAm := hm.ok m _ hm0
          have hAx := hm.ok x _ hx0
          have hcx : ∀ (a : Nat) (g : Int), ((bs.map avB ++ [AV.val (.int .u32 (.ofNat a)), .val (.int .i64 g)]).map (AV.dec θ)) = ({ s := s, k := bs, e := a, g := g, b := (θ x).1 } : One).cells := fun a g => by
            rw [List.map_append, avB_dec]; simp [One.cells, AV.dec]
          have hno := noSrc_ok (θ := θ) h3
          have S := hS (θ r).1 (θ i1).1 (θ m).1 { s := s, k := bs, e := e0, g := g0, b := (θ x).1 } (c.map (decP θ)) e g hbs hee hno
          have d1 := hm.dj r _ m _ hr hm0 hrm
          have d2 := hm.dj r _ x _ hr hx0 hrx
          have d3 := hm.dj m _ x _ hm0 hx0 (Ne.symm hxm)
          simp only [itA] at hAr hAm hAx d1 d2 d3
          rw [hcx] at hAx
          have hbm : (θ r).1 ≠ (θ m).1 := fun e => d1 _ (List.mem_singleton_self _) (by rw [e]; exact List.mem_singleton_self _)
          have hbx : (θ r).1 ≠ (θ x).1 := fun e => d2 _ (List.mem_singleton_self _) (by rw [e]; exact List.mem_singleton_self _)
          have hmx : (θ m).1 ≠ (θ x).1 := fun e => d3 _ (List.mem_singleton_self _) (by rw [e]; exact List.mem_singleton_self _)
          have hAr' : (cel (θ r).1 [.map (some (θ i1).1), .map (some (θ m).1)] 554).A w := by simpa [AV.dec] using hAr
          have hgood : ∀ p ∈ c.map (decP θ), plKS.good p.1 := by
            obtain ⟨es, clock, -, -, -, h4, -⟩ := hAm
            exact h4
          have hAm' : (mapI (θ m).1 goodP (c.map (decP θ))).A w := mapI_good hAm fun p hp => pl_good (hgood p hp)
          refine (S w ⟨(fun _ h => by cases h), fun y hy => ?_, ?_, (fun _ h => by cases h)⟩).mono ?_
          · rcases List.mem_cons.1 hy with rfl | hy
            · exact hAr'
            · rcases List.mem_cons.1 hy with rfl | hy
              · exact hAm'
              · rw [List.mem_singleton.1 hy]; exact hAx
          · show [(θ r).1, (θ m).1, (θ x).1].Nodup
            simp [hbm, hbx, hmx]
          · rintro e' w' ⟨u, I', H', rfl, ⟨rfl, rfl, rfl⟩, hk, hs', -, -⟩
            have B1 := hs'.h _ (List.mem_cons_self ..)
            have B2 := hs'.h _ (List.mem_cons_of_mem _ (List.mem_cons_self ..))
            have B3 := hs'.h _ (List.mem_cons_of_mem _ (List.mem_cons_of_mem _ (List.mem_cons_self ..)))
            have hset : setV (pl (s : Int) (e : Int)) (keyE bs e) (c.map (decP θ)) = c.map (decP θ) ++ [(pl (s : Int) (e : Int), keyE bs e)] := setV_absent (look_absent fun p hp e' => hno p hp _ _ e' rfl)
            have hB1 : (mapI (θ m).1 goodP (setV (pl (s : Int) (e : Int)) (keyE bs e) (c.map (decP θ)))).A w' := B1
            rw [hset] at hB1
            have hnew : decP θ (AV.agg [.val (.int .i64 (.ofNat s)), .val (.int .u32 (.ofNat e))], AV.agg ((deriveK bs epochL e).map avB)) = (pl (s : Int) (e : Int), keyE bs e) := by
              unfold decP
              rw [key_dec]
              simp [AV.dec, AV.decL, pl, keyE]
            have gm : h'.get m = some (.map plKS (c ++ [(AV.agg [.val (.int .i64 (.ofNat s)), .val (.int .u32 (.ofNat e))], AV.agg ((deriveK bs epochL e).map avB))])) := by
              rw [hg2, if_neg (Ne.symm hxm), hg1, if_pos rfl]
            have gx : h'.get x = some (.cells 562 (bs.map avB ++ [.val (.int .u32 (.ofNat e)), .val (.int .i64 g)])) := by rw [hg2, if_pos rfl]
            have gr : h'.get r = some (.cells 554 [.map i1, .map m]) := by rw [hg2, if_neg hrx, hg1, if_neg hrm, hr]
            refine ⟨_, rfl, ⟨θ, aft_turns [r, m, x] hm (fun j hj => ?_) (fun j hj => ?_) ⟨hk.os, hk.tape, hk.output, hk.size, fun b hlt hn => hk.block b hlt fun hb' => hn ?_, hk.drawn⟩ trivial (by simp [AV.dec, AV.decL])⟩, fun k c' hk' => ?_⟩
            · simp only [List.mem_cons, List.not_mem_nil, or_false, not_or] at hj
              rw [hg2, if_neg hj.2.2, hg1, if_neg hj.2.1]
            · rcases List.mem_cons.1 hj with rfl | hj
              · refine ⟨n1, _, _, hr, gr, ?_, fun _ h => h, hm.wf _ _ hr⟩
                simp only [itA]
                simpa [AV.dec] using B2
              · rcases List.mem_cons.1 hj with rfl | hj
                · refine ⟨n3, _, _, hm0, gm, ?_, fun _ h => h, fun y hy => ?_⟩
                  · simp only [itA, List.map_append, List.map_cons, List.map_nil, hnew]
                    refine mapI_good hB1 fun p hp => ?_
                    rcases List.mem_append.1 hp with hp | hp
                    · exact hgood p hp
                    · rw [List.mem_singleton.1 hp]; exact pl_fits hs hee
                  · have hw0 := hm.wf _ _ hm0
                    simp only [Blk.vals, List.map_append, List.map_cons, List.map_nil, List.mem_append, List.mem_singleton] at hy hw0
                    rcases hy with (hy | rfl) | (hy | rfl)
                    · exact hw0 y (.inl hy)
                    · exact ⟨trivial, trivial, trivial⟩
                    · exact hw0 y (.inr hy)
                    · exact avB_wf _ _
                · obtain rfl := List.mem_singleton.1 hj
                  refine ⟨n2, _, _, hx0, gx, ?_, fun _ h => h, fun y hy => ?_⟩
                  · simp only [itA]; rw [hcx]; exact B3
                  · simp only [Blk.vals, List.mem_append, List.mem_cons, List.not_mem_nil, or_false] at hy
                    rcases hy with hy | rfl | rfl
                    · exact wfL_iff.1 (avB_wf _ bs) y hy
                    · trivial
                    · trivial
            · have hb'' : b = (θ r).1 ∨ b = (θ m).1 ∨ b = (θ x).1 := by simpa [bss, cel, mapI] using hb'
              rcases hb'' with rfl | rfl | rfl
              · exact ⟨r, by simp, _, hr, List.mem_singleton_self _⟩
              · exact ⟨m, by simp, _, hm0, List.mem_singleton_self _⟩
              · exact ⟨x, by simp, _, hx0, List.mem_singleton_self _⟩
            · have a1 : k ≠ m := fun e => by subst e; rw [n3] at hk'; cases hk'
              have a2 : k ≠ x := fun e => by subst e; rw [n2] at hk'; cases hk'
              rw [hg2, if_neg a2, hg1, if_neg a1]; exact hi k c' hk'
        · cases h10
      · cases he
    · cases he
  · cases he
end Go.Proofs.YthgjgeapfndeeaaGreatDoor

/-
  EH, part 6: the sources of a ring.
-/
namespace Go.PK
section
variable {P : Program} {θ : Vl} {h h' hb : Heap} {w w' : World} {v : AV} {u : Value} {id : Nat} {b : Blk}
/-- A block has come, and what was there still stands. -/
theorem aft_mix (hm : Mem θ h w) (hm' : ∀ k c, h.get k = some c → (itA θ k c).A w') (h0 : h.get id = none) (hg : ∀ j, h'.get j = if j = id then some b else h.get j) (p : Nat × Nat) (hkp : KeepP (Own θ h hb) w w')
    (hA : (itA (upd θ id p) id b).A w') (hb' : ∀ x ∈ (itA (upd θ id p) id b).bs, w.heap.size ≤ x) (hv : ∀ x ∈ b.vals, x.Wf (AH θ h)) (hwf : v.Wf (AH (upd θ id p) h')) (hu : u = v.dec (upd θ id p)) : Aft θ h hb w v h' u w' (upd θ id p) := by
  have hx : Ext θ h (upd θ id p) h' := ext_new h0 hg
  have old : ∀ k c, h.get k = some c → k ≠ id := fun k c hk e => by subst e; rw [hk] at h0; cases h0
  have it : ∀ k c, h.get k = some c → itA (upd θ id p) k c = itA θ k c := fun k c hk => itA_ext hx.th (upd_ne (old k c hk)) (hm.wf k c hk)
  refine ⟨hu, hx, hkp, ⟨fun k c hk => ?_, fun k c hk => ?_, fun k c k' c' hk hk' hne => ?_⟩, hwf, fun x ⟨k, c, g1, g2, g3⟩ hlt => ?_⟩
  · rw [hg] at hk
    by_cases e : k = id
    · subst e; rw [if_pos rfl] at hk; cases hk; exact hA
    · rw [if_neg e] at hk
      rw [it k c hk]
      exact hm' k c hk
  · rw [hg] at hk
    by_cases e : k = id
    · subst e; rw [if_pos rfl] at hk; cases hk; exact fun x hx' => (hv x hx').mono hx.ah
    · rw [if_neg e] at hk
      exact fun x hx' => (hm.wf k c hk x hx').mono hx.ah
  · rw [hg] at hk hk'
    by_cases e : k = id
    · subst e
      rw [if_pos rfl] at hk; cases hk
      rw [if_neg (Ne.symm hne)] at hk'
      rw [it k' c' hk']
      exact fun x hx1 hx2 => by have := hm.lt hk' x hx2; have := hb' x hx1; omega
    · rw [if_neg e] at hk
      rw [it k c hk]
      by_cases e' : k' = id
      · subst e'
        rw [if_pos rfl] at hk'; cases hk'
        exact fun x hx1 hx2 => by have := hm.lt hk x hx1; have := hb' x hx2; omega
      · rw [if_neg e'] at hk'
        rw [it k' c' hk']
        exact hm.dj k c k' c' hk hk' hne
  · rw [hg] at g2
    by_cases e : k = id
    · subst e; rw [if_pos rfl] at g2; cases g2
      have := hb' x g3; omega
    · rw [if_neg e] at g2
      rw [it k c g2] at g3
      exact ⟨k, c, g1, g2, g3⟩
end
end Go.PK
namespace Go.Proofs.YthgjgeapfndeeaaGreatDoor
open Go.PK
/-! ### Numbers sorted -/
noncomputable def insN (n : Nat) (l : List Nat) : List Nat := List.rec (motive := fun _ => List Nat) [n] (fun m r ih => bo (Nat.ble n m) (n :: m :: r) (m :: ih)) l
theorem insN_perm (n : Nat) : ∀ l : List Nat, (insN n l).Perm (n :: l)
  | [] => List.Perm.refl _
  | m :: r => by
    show (bo (Nat.ble n m) (n :: m :: r) (m :: insN n r)).Perm (n :: m :: r)
    cases Nat.ble n m with
    | true => exact List.Perm.refl _
    | false => exact ((insN_perm n r).cons m).trans (List.Perm.swap _ _ _)
noncomputable def srtN (l : List Nat) : List Nat := List.rec (motive := fun _ => List Nat) [] (fun n _ ih => insN n ih) l
theorem srtN_perm : ∀ l : List Nat, (srtN l).Perm l
  | [] => List.Perm.refl _
  | n :: r => (insN_perm n (srtN r)).trans ((srtN_perm r).cons n)
noncomputable def ordN (l : List Nat) : Nat → Bool := List.rec (motive := fun _ => Nat → Bool) (fun _ => true) (fun m _ ih n => bo (Nat.ble n m) (ih m) false) l
theorem ordN_ok : ∀ (l : List Nat) (n : Nat), ordN l n = true → (∀ x ∈ l, n ≤ x) ∧ l.Pairwise (· ≤ ·)
  | [], n, _ => ⟨(fun _ h => by cases h), List.Pairwise.nil⟩
  | m :: r, n, h => by
    rcases bo_cases (show bo (Nat.ble n m) (ordN r m) false = true from h) with ⟨h1, h2⟩ | ⟨_, h2⟩
    · have hle : n ≤ m := Nat.le_of_ble_eq_true h1
      obtain ⟨h3, h4⟩ := ordN_ok r m h2
      refine ⟨fun x hx => ?_, List.Pairwise.cons h3 h4⟩
      rcases List.mem_cons.1 hx with rfl | hx
      · exact hle
      · exact Nat.le_trans hle (h3 x hx)
    · cases h2
abbrev avI (n : Nat) : AV := .val (.int .i64 (.ofNat n))
noncomputable def keysN (c : List (AV × AV)) : Option (List Nat) := List.rec (motive := fun _ => Option (List Nat)) (some []) (fun x _ ih => onI x.1 fun q m => onNat m fun n => bo (Nat.beq (kN q) 6) (ob ih fun r => some (n :: r)) none) c
theorem keysN_ok {θ : Vl} : ∀ (c : List (AV × AV)) (l : List Nat), keysN c = some l → (c.map (decP θ)).map (·.1) = ints (l.map Int.ofNat)
  | [], l, h => by cases h; rfl
  | x :: c, l, h => by
    obtain ⟨q, m, hx, h1⟩ := onI_inv (show onI x.1 (fun q m => onNat m fun n => bo (Nat.beq (kN q) 6) (ob (keysN c) fun r => some (n :: r)) none) = some l from h)
    obtain ⟨n, rfl, h2⟩ := onNat_inv h1
    obtain ⟨h3, h4⟩ := bo_inv h2
    obtain ⟨r, h5, h6⟩ := ob_inv h4
    cases h6
    have hq : q = .i64 := kN_inj (k' := .i64) h3
    subst hq
    have ih := keysN_ok (θ := θ) c r h5
    rw [List.map_cons, List.map_cons, ih]
    show (decP θ x).1 :: _ = _
    have : (decP θ x).1 = .int .i64 (Int.ofNat n) := by
      show x.1.dec θ = _
      rw [hx]; rfl
    rw [this]; rfl
noncomputable def hkSrcs : Hk := fun hb h nx a => match a with
  | [.ptr r 0] => match h.get r with
    | some (.cells T [.map i1, .map _]) => match h.get i1 with
      | some (.map (.int .i64) c) => bo (decide (T = 554) && ((hb.get r).isNone && (hb.get i1).isNone)) (ob (keysN c) fun l => (fun s => bo (ordN s 0) (lenN (s.map avI) 0 fun n => bo (Nat.blt 0 n && Nat.blt n 1000) (ob (newF nx (.own 3 1 n (s.map avI)) (.sl nx 0 n false 0) h) fun q => frcN (fun n' => some (q.1, q.2, n')) (Nat.succ nx)) none) none) (srtN l)) none
      | _ => none
    | _ => none
  | _ => none
theorem hkSrcs_ok {f : Nat} (hO : okF Tryz.prog f = true)
    (hS : ∀ (r m1 m2 : Nat) (zs : List Int) (c : List (Value × Value)), c.map (·.1) = ints zs → zs.length ≤ 1000 → Spc Tryz.prog f #[.pointer (some ⟨r, 0, none⟩)] [] [cel r [.map (some m1), .map (some m2)] 554, mapI m1 goodI c]
      (fun v I' H' => ∃ ob cp, v = slO ob zs.length cp ∧ I' = [] ∧ H' = [own ob cp 3 1 zs.length (ints (sortL zs)), mapI m1 goodI c, cel r [.map (some m1), .map (some m2)] 554]))
    {hb h h' : Heap} {nx nx' : Nat} {args : List AV} {v : AV} (he : hkSrcs hb h nx args = some (v, h', nx')) : FOk Tryz.prog f args h hb v h' := by
  unfold hkSrcs at he
  split at he
  · next r =>
    split at he
    · next T i1 i2 hr =>
      split at he
      · next c hm0 =>
        obtain ⟨h1, h2⟩ := bo_inv he
        obtain ⟨l, h3, h4⟩ := ob_inv h2
        have h4 : bo (ordN (srtN l) 0) _ none = some (v, h', nx') := h4
        obtain ⟨h5, h6⟩ := bo_inv h4
        rw [lenN_eq] at h6
        obtain ⟨h7, h8⟩ := bo_inv h6
        obtain ⟨⟨v1, t1⟩, h9, h10⟩ := ob_inv h8
        rw [frcN_eq] at h10
        rw [newF_eq] at h9
        cases h10
        simp only [Bool.and_eq_true, decide_eq_true_eq, Option.isNone_iff_eq_none] at h1
        obtain ⟨rfl, n1, n2⟩ := h1
        rw [Nat.zero_add, List.length_map] at h7 h9
        rw [Bool.and_eq_true] at h7
        have hp : 0 < (srtN l).length := Nat.le_of_ble_eq_true h7.1
        have hlt : (srtN l).length < 1000 := Nat.le_of_ble_eq_true h7.2
        have hperm := srtN_perm l
        have hlen : (srtN l).length = l.length := hperm.length_eq
        obtain ⟨h0, rfl, hg⟩ := newB_inv h9
        have hri : r ≠ i1 := fun e => by subst e; rw [hr] at hm0; cases hm0
        have hsort : sortL (l.map Int.ofNat) = (srtN l).map Int.ofNat := by
          rw [sortL_perm (hperm.symm.map Int.ofNat)]
          refine List.mergeSort_of_pairwise ?_
          rw [List.pairwise_map]
          exact (ordN_ok _ _ h5).2.imp fun hab => by simpa using hab
        refine ⟨okF_ok f hO, fun hi θ w hm hwa => ?_⟩
        have hAr := hm.ok r _ hr
        have hAm := hm.ok i1 _ hm0
        have d1 := hm.dj r _ i1 _ hr hm0 hri
        simp only [itA] at hAr hAm d1
        have hbm : (θ r).1 ≠ (θ i1).1 := fun e => d1 _ (List.mem_singleton_self _) (by rw [e]; exact List.mem_singleton_self _)
        have hAr' : (cel (θ r).1 [.map (some (θ i1).1), .map (some (θ i2).1)] 554).A w := by simpa [AV.dec] using hAr
        have S := hS (θ r).1 (θ i1).1 (θ i2).1 (l.map Int.ofNat) (c.map (decP θ)) (keysN_ok c l h3) (by rw [List.length_map]; omega)
        refine (S w ⟨(fun _ h => by cases h), fun y hy => ?_, ?_, (fun _ h => by cases h)⟩).mono ?_
        · rcases List.mem_cons.1 hy with rfl | hy
          · exact hAr'
          · rw [List.mem_singleton.1 hy]; exact hAm
        · show [(θ r).1, (θ i1).1].Nodup
          simp [hbm]
        · rintro e' w' ⟨u, I', H', rfl, ⟨ob', cap, rfl, rfl, rfl⟩, hk, hs', hfr, -⟩
          have B1 := hs'.h _ (List.mem_cons_self ..)
          have B2 := hs'.h _ (List.mem_cons_of_mem _ (List.mem_cons_self ..))
          have B3 := hs'.h _ (List.mem_cons_of_mem _ (List.mem_cons_of_mem _ (List.mem_cons_self ..)))
          rw [List.length_map, ← hlen, hsort] at B1
          cases ob' with
          | none => obtain ⟨-, h2, -⟩ := B1; omega
          | some bk =>
            have hcap : (srtN l).length ≤ cap := B1.2.1
            have hnew : w.heap.size ≤ bk := by
              have hin : bk ∈ bss [own (some bk) cap 3 1 (l.map Int.ofNat).length (ints (sortL (l.map Int.ofNat))), mapI (θ i1).1 goodI (c.map (decP θ)), cel (θ r).1 [.map (some (θ i1).1), .map (some (θ i2).1)] 554] := by simp [bss, own]
              rcases hfr bk hin with h | h
              · have hnd := hs'.nd
                have : bk = (θ r).1 ∨ bk = (θ i1).1 := by simpa [bss, cel, mapI] using h
                simp only [bss, List.flatMap_cons, List.flatMap_nil, own, mapI, cel, Option.toList, List.cons_append, List.nil_append, List.append_nil, List.nodup_cons, List.mem_cons, List.not_mem_nil, or_false, not_or] at hnd
                rcases this with rfl | rfl
                · exact absurd rfl hnd.1.2
                · exact absurd rfl hnd.1.1
              · exact h
            have hkp : KeepP (Own θ h hb) w w' := ⟨hk.os, hk.tape, hk.output, hk.size, fun b hlt hn => hk.block b hlt fun hb' => hn (by
              have : b = (θ r).1 ∨ b = (θ i1).1 := by simpa [bss, cel, mapI] using hb'
              rcases this with rfl | rfl
              · exact ⟨r, _, n1, hr, List.mem_singleton_self _⟩
              · exact ⟨i1, _, n2, hm0, List.mem_singleton_self _⟩), hk.drawn⟩
            have hm' : ∀ k c0, h.get k = some c0 → (itA θ k c0).A w' := fun k c0 hk0 => by
              by_cases e1 : k = r
              · subst e1; rw [hr] at hk0; cases hk0
                simp only [itA]; simpa [AV.dec] using B3
              · by_cases e2 : k = i1
                · subst e2; rw [hm0] at hk0; cases hk0
                  exact B2
                · have hA := hm.ok k c0 hk0
                  refine (itA θ k c0).fr w w' (fun x hx => hk.block x ((itA θ k c0).lt w hA x hx) fun hb' => ?_) hA
                  have : x = (θ r).1 ∨ x = (θ i1).1 := by simpa [bss, cel, mapI] using hb'
                  rcases this with rfl | rfl
                  · exact hm.dj k c0 r _ hk0 hr e1 _ hx (List.mem_singleton_self _)
                  · exact hm.dj k c0 i1 _ hk0 hm0 e2 _ hx (List.mem_singleton_self _)
            have hdec : ((srtN l).map avI).map (AV.dec (upd θ nx (bk, cap))) = ints ((srtN l).map Int.ofNat) := by
              simp only [ints, List.map_map]
              exact List.map_congr_left fun n _ => by simp [AV.dec]
            refine ⟨_, rfl, ⟨_, aft_mix hm hm' h0 hg (bk, cap) hkp ?_ (fun x hx => ?_) (fun x hx => ?_) ?_ ?_⟩, inv_new hi h0 hg⟩
            · simp only [itA, upd_at, hdec]; exact B1
            · simp only [itA, upd_at] at hx
              have hx' : x = bk := by simpa [own] using hx
              rw [hx']; exact hnew
            · simp only [Blk.vals, List.mem_map] at hx
              obtain ⟨n, -, rfl⟩ := hx
              trivial
            · exact ⟨by rw [hg, if_pos rfl]; rfl, by rw [upd_at]; exact hcap⟩
            · simp only [AV.dec, upd_at, List.length_map, hlen]; rfl
      · cases he
    · cases he
  · cases he
end Go.Proofs.YthgjgeapfndeeaaGreatDoor
