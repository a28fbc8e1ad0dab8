import Derived.Test.YtpaemkemknfmfaaGreatDoorEH
import Derived.Test.YtpaemkemknfmfaaGreatDoorGX
import Derived.Test.YtpaemkemknfmfaaGreatDoorGA
import Derived.Test.YtpaemkemknfmfaaGreatDoorWA
set_option linter.unusedVariables false
set_option linter.unusedSimpArgs false
/-
  ES, part 1: functions of the library, and of the script's chapter, that the evaluator takes from their contracts.
-/
namespace Go.Proofs.YtpaemkemknfmfaaGreatDoor
open Go.PK Go.RowKit Go.Shelf
noncomputable def cntU (l : List UInt8) (c : Nat) : Nat := List.rec (motive := fun _ => Nat) 0 (fun x _ ih => bo (Nat.beq x.toNat c) (Nat.succ ih) ih) l
theorem cntU_eq (c : UInt8) : ∀ l : List UInt8, cntU l c.toNat = l.count c
  | [] => rfl
  | x :: l => by
    show bo (Nat.beq x.toNat c.toNat) (Nat.succ (cntU l c.toNat)) (cntU l c.toNat) = _
    rw [cntU_eq c l, List.count_cons]
    by_cases h : x = c
    · subst h; rw [Nat.beq_refl]; simp [bo]
    · have h2 : Nat.beq x.toNat c.toNat = false := Bool.eq_false_iff.2 fun e => h (UInt8.toNat_inj.1 (Nat.eq_of_beq_eq_true e))
      rw [h2]; simp [bo, h]
noncomputable def ixU (l : List UInt8) (c : Nat) : Nat → Option Nat := List.rec (motive := fun _ => Nat → Option Nat) (fun _ => none) (fun x _ ih i => bo (Nat.beq x.toNat c) (some i) (ih (Nat.succ i))) l
theorem ixU_eq (c : UInt8) : ∀ (l : List UInt8) (i : Nat), (match ixU l c.toNat i with | some j => (j : Int) - i | none => -1) = Go.Lib.indexByte l c ∧ ∀ j, ixU l c.toNat i = some j → i ≤ j
  | [], _ => ⟨rfl, fun _ h => by cases h⟩
  | x :: l, i => by
    have hs : ixU (x :: l) c.toNat i = bo (Nat.beq x.toNat c.toNat) (some i) (ixU l c.toNat (Nat.succ i)) := rfl
    obtain ⟨h1, h2⟩ := ixU_eq c l (i + 1)
    rw [hs, Go.Lib.indexByte]
    by_cases h : x = c
    · subst h; rw [Nat.beq_refl]
      exact ⟨by simp [bo], fun j hj => by cases hj; exact Nat.le_refl _⟩
    · have h3 : Nat.beq x.toNat c.toNat = false := Bool.eq_false_iff.2 fun e => h (UInt8.toNat_inj.1 (Nat.eq_of_beq_eq_true e))
      rw [h3]
      show (match ixU l c.toNat (i + 1) with | some j => (j : Int) - i | none => -1) = _ ∧ ∀ j, ixU l c.toNat (i + 1) = some j → i ≤ j
      rw [if_neg (by simpa using h)]
      cases hj : ixU l c.toNat (i + 1) with
      | none =>
        rw [hj] at h1
        refine ⟨?_, fun _ h => by cases h⟩
        rw [← h1]; rfl
      | some j =>
        rw [hj] at h1
        have := h2 j hj
        refine ⟨?_, fun j' hj' => by cases hj'; omega⟩
        have h1 : (j : Int) - ((i + 1 : Nat) : Int) = Go.Lib.indexByte l c := h1
        rw [← h1]
        rw [if_neg (by simp; omega)]
        show (j : Int) - i = _
        omega
theorem quietB {f : FuncId} {args : List AV} {h hb : Heap} {v : Value} (hO : okF Tryz.prog f = true) (hS : ∀ θ w, Calls Tryz.prog f (args.map (AV.dec θ)).toArray w fun e w' => e = .returned v ∧ Below w.heap.size w w') : FOk Tryz.prog f args h hb (.val v) h :=
  .quiet hO (fun A => trivial) fun θ w _ _ => ⟨[], (fun _ h => by cases h), Spc.ofB fun w _ => hS θ w⟩
noncomputable def hkCount : Hk := fun _ h nx a => match a with
  | [.val (.string s), .val (.string ⟨⟨[c]⟩⟩)] => frcN (fun n => some (.val (.int .i64 (.ofNat n)), h, nx)) (cntU s.data.toList c.toNat)
  | _ => none
theorem hkCount_ok {f : Nat} (hO : okF Tryz.prog f = true) (hS : ∀ (s : ByteArray) (c : UInt8) (w : World), Calls Tryz.prog f #[.string s, .string ⟨#[c]⟩] w fun e w' => e = .returned (.int .i64 (Go.Lib.countByte s.data.toList c)) ∧ w' = w)
    {hb h h' : Heap} {nx nx' : Nat} {args : List AV} {v : AV} (he : hkCount hb h nx args = some (v, h', nx')) : FOk Tryz.prog f args h hb v h' := by
  unfold hkCount at he
  split at he
  · next s c =>
    rw [frcN_eq, cntU_eq] at he
    cases he
    refine quietB hO fun θ w => (hS s c w).mono ?_
    rintro e w' ⟨rfl, rfl⟩
    exact ⟨rfl, Below.refl _ _⟩
  · cases he
noncomputable def hkIndex : Hk := fun _ h nx a => match a with
  | [.val (.string s), .val (.string ⟨⟨[c]⟩⟩)] => match ixU s.data.toList c.toNat 0 with
    | some i => some (.val (.int .i64 (.ofNat i)), h, nx)
    | none => some (.val (.int .i64 (-1)), h, nx)
  | _ => none
theorem hkIndex_ok {f : Nat} (hO : okF Tryz.prog f = true) (hS : ∀ (s : ByteArray) (c : UInt8) (w : World), Calls Tryz.prog f #[.string s, .string ⟨#[c]⟩] w fun e w' => e = .returned (.int .i64 (Go.Lib.indexByte s.data.toList c)) ∧ w' = w)
    {hb h h' : Heap} {nx nx' : Nat} {args : List AV} {v : AV} (he : hkIndex hb h nx args = some (v, h', nx')) : FOk Tryz.prog f args h hb v h' := by
  unfold hkIndex at he
  split at he
  · next s c =>
    have hx := (ixU_eq c s.data.toList 0).1
    have key : ∀ n : Int, Go.Lib.indexByte s.data.toList c = n → FOk Tryz.prog f [.val (.string s), .val (.string ⟨⟨[c]⟩⟩)] h hb (.val (.int .i64 n)) h := fun n hn => quietB hO fun θ w => (hS s c w).mono (by
      rintro e w' ⟨rfl, rfl⟩
      rw [hn]
      exact ⟨rfl, Below.refl _ _⟩)
    split at he
    · next i hi =>
      rw [hi] at hx
      cases he
      exact key _ (by rw [← hx]; show (i : Int) - ((0 : Nat) : Int) = Int.ofNat i; simp)
    · next hi =>
      rw [hi] at hx
      cases he
      exact key _ hx.symm
  · cases he
noncomputable def smlS (i : Nat) : List UInt8 := bo (Nat.blt i 10) [UInt8.ofNat (48 + i)] [UInt8.ofNat (48 + Nat.div i 10), UInt8.ofNat (48 + Nat.mod i 10)]
theorem smlS_eq {i : Nat} (h : i < 100) : txt (decT i) = ⟨⟨smlS i⟩⟩ := by
  have q : ((List.range 100).all fun i => eqU ((decT i).map UInt8.ofBitVec) (smlS i)) = true := by kernel_rfl
  have := eqU_iff.1 (List.all_eq_true.1 q i (List.mem_range.2 h))
  rw [txt, this]
noncomputable def hkSmall : Hk := fun _ h nx a => match a with
  | [.val (.int .i64 (.ofNat i))] => bo (Nat.blt i 100) (some (.val (.string ⟨⟨smlS i⟩⟩), h, nx)) none
  | _ => none
theorem hkSmall_ok {f : Nat} (hO : okF Tryz.prog f = true) (hS : ∀ i : Nat, i < 100 → Spc Tryz.prog f #[.int .i64 (i : Int)] [] [] (Is (.string (txt (decT i)))))
    {hb h h' : Heap} {nx nx' : Nat} {args : List AV} {v : AV} (he : hkSmall hb h nx args = some (v, h', nx')) : FOk Tryz.prog f args h hb v h' := by
  unfold hkSmall at he
  split at he
  · next i =>
    obtain ⟨h1, h2⟩ := bo_inv he
    have hi : i < 100 := Nat.le_of_ble_eq_true h1
    cases h2
    refine .quiet hO (fun A => trivial) fun θ w hm hwa => ⟨[], (fun _ h => by cases h), ?_⟩
    have := hS i hi
    rw [smlS_eq hi] at this
    exact this
  · cases he
noncomputable def hkPU : Hk := fun _ h nx a => match a with
  | [.val (.string s), .val (.int .i64 (.ofNat 10)), .val (.int .i64 (.ofNat 64))] => bo (Nat.blt s.size 1000) (match Go.Lib.parseUintB 64 s.data.toList with
    | .ok v => frcN (fun v => some (.tup [.val (.int .u64 (.ofNat v)), .val .nilIface], h, nx)) v
    | _ => none) none
  | _ => none
theorem hkPU_ok {f : Nat} (hO : okF Tryz.prog f = true) (hS : ∀ (s : ByteArray) (v : Nat) (w : World), s.size < 1000 → Go.Lib.parseUintB 64 s.data.toList = .ok v → Calls Tryz.prog f #[.string s, .int .i64 10, .int .i64 64] w fun e w' => e = .returned (.tuple #[.int .u64 (v : Int), .nilIface]) ∧ Below w.heap.size w w')
    {hb h h' : Heap} {nx nx' : Nat} {args : List AV} {v : AV} (he : hkPU hb h nx args = some (v, h', nx')) : FOk Tryz.prog f args h hb v h' := by
  unfold hkPU at he
  split at he
  · next s =>
    obtain ⟨hs, he⟩ := bo_inv he
    split at he
    · next u hu =>
      rw [frcN_eq] at he
      cases he
      refine .quiet hO (fun A => ⟨trivial, trivial, trivial⟩) fun θ w hm hwa => ⟨[], (fun _ h => by cases h), Spc.ofB fun w _ => hS s u w (Nat.le_of_ble_eq_true hs) hu⟩
    · cases he
  · cases he
noncomputable def hkPI : Hk := fun _ h nx a => match a with
  | [.val (.string s), .val (.int .i64 (.ofNat 10)), .val (.int .i64 (.ofNat 64))] => bo (Nat.blt s.size 1000) (match Go.Lib.parseIntB 64 s.data.toList with
    | .ok v => frc (.val (.int .i64 v)) fun v => some (.tup [v, .val .nilIface], h, nx)
    | _ => none) none
  | _ => none
theorem hkPI_ok {f : Nat} (hO : okF Tryz.prog f = true) (hS : ∀ (s : ByteArray) (v : Int) (w : World), s.size < 1000 → Go.Lib.parseIntB 64 s.data.toList = .ok v → Calls Tryz.prog f #[.string s, .int .i64 10, .int .i64 64] w fun e w' => e = .returned (.tuple #[.int .i64 v, .nilIface]) ∧ Below w.heap.size w w')
    {hb h h' : Heap} {nx nx' : Nat} {args : List AV} {v : AV} (he : hkPI hb h nx args = some (v, h', nx')) : FOk Tryz.prog f args h hb v h' := by
  unfold hkPI at he
  split at he
  · next s =>
    obtain ⟨hs, he⟩ := bo_inv he
    split at he
    · next u hu =>
      rw [frc_eq] at he
      cases he
      refine .quiet hO (fun A => ⟨trivial, trivial, trivial⟩) fun θ w hm hwa => ⟨[], (fun _ h => by cases h), Spc.ofB fun w _ => hS s u w (Nat.le_of_ble_eq_true hs) hu⟩
    · cases he
  · cases he
noncomputable def by32L (D : Nat) (l : List AV) : List AV := byt D 248 :: byt D 240 :: byt D 232 :: byt D 224 :: byt D 216 :: byt D 208 :: byt D 200 :: byt D 192 :: byt D 184 :: byt D 176 :: byt D 168 :: byt D 160 :: byt D 152 :: byt D 144 :: byt D 136 :: byt D 128 :: byt D 120 :: byt D 112 :: byt D 104 :: byt D 96 :: byt D 88 :: byt D 80 :: byt D 72 :: byt D 64 :: byt D 56 :: byt D 48 :: byt D 40 :: byt D 32 :: byt D 24 :: byt D 16 :: byt D 8 :: byt D 0 :: l
noncomputable def nxN (k : Nat) : Nat := shaN ivN 0 45 (Nat.add (Nat.mul (num label) 115792089237316195423570985008687907853269984665640564039457584007913129639936) k)
noncomputable def hkNextF : Hk := fun _ h nx a => match a with
  | [k] => ob (key32 k) fun k => frcN (fun K => some (.agg (by32L K []), h, nx)) (nxN k)
  | _ => none
theorem hkNextF_ok {f : Nat} (hO : okF Tryz.prog f = true) (hS : ∀ (k : List B8), k.length = 32 → Spc Tryz.prog f #[.agg (bytes k).toArray] [] [] (Is (.agg (bytes (nextK k)).toArray)))
    {hb h h' : Heap} {nx nx' : Nat} {args : List AV} {v : AV} (he : hkNextF hb h nx args = some (v, h', nx')) : FOk Tryz.prog f args h hb v h' := by
  refine hkNext_ok hO hS (hb := hb) (nx := nx) (nx' := nx') ?_
  unfold hkNextF at he
  unfold hkNext
  split at he
  · simp only [frcN_eq] at he ⊢
    exact he
  · cases he
end Go.Proofs.YtpaemkemknfmfaaGreatDoor

/-
  ES, part 2: tags of parts, keys of intervals.
-/
namespace Go.Proofs.YtpaemkemknfmfaaGreatDoor
open Go.PK
noncomputable def hkTagP : Hk := fun _ h nx a => match a with
  | [k, p] => ob (key32 k) fun k => ob (rowC 1 p h) fun q => bo (Nat.blt q.1 1000) (ob (rowsH h q.2 0 0) fun m => bo (Nat.blt m.2 1000000) (some (.agg (by16 (macN k m.2 m.1)), h, nx)) none) none
  | _ => none
theorem hkTagP_ok {f : Nat} (hO : okF Tryz.prog f = true) (hS : ∀ (k : List B8), k.length = 32 → ∀ (pp : Option Addr) (qn cap : Nat) (qs : List Part), qs.length = qn → qn ≤ 1000000 → (joined qs).length ≤ 100000000 → Spc Tryz.prog f #[.agg (bytes k).toArray, .slice pp qn cap] (sls pp 1 qn (qs.map Part.v) :: qs.map Part.i) [] (Is (.agg (bytes (macTag k (joined qs))).toArray)))
    {hb h h' : Heap} {nx nx' : Nat} {args : List AV} {v : AV} (he : hkTagP hb h nx args = some (v, h', nx')) : FOk Tryz.prog f args h hb v h' := by
  unfold hkTagP at he
  split at he
  · next k p =>
    obtain ⟨K, h1, h2⟩ := ob_inv he
    obtain ⟨⟨n, l⟩, h7, h8⟩ := ob_inv h2
    obtain ⟨h9, h10⟩ := bo_inv h8
    obtain ⟨M, h11, h12⟩ := ob_inv h10
    obtain ⟨h13, h14⟩ := bo_inv h12
    obtain ⟨ks, hk, rfl, rfl⟩ := key32_ok h1
    obtain ⟨bb, hbb, rfl⟩ := rowsH_ok l [] M h11
    have hn : n < 1000 := Nat.le_of_ble_eq_true h9
    have hm1 : bb.flatten.length < 1000000 := Nat.le_of_ble_eq_true h13
    have e : by16 (macN (num ks) ([] ++ bb.flatten).length (num ([] ++ bb.flatten))) = (macTag ks bb.flatten).map avB := by
      rw [List.nil_append, ← mac_num ks hk _ (by omega), by16_eq _ (macCode_len _ _)]; rfl
    have h14 : some ((AV.agg (by16 (macN (num ks) ([] ++ bb.flatten).length (num ([] ++ bb.flatten)))), h, nx) : AV × Heap × Nat) = some (v, h', nx') := h14
    rw [e] at h14
    cases h14
    have h17 := rowC_ok h7
    refine .quiet hO (fun A => avB_wf A _) fun θ w hm hwa => ?_
    obtain ⟨qs, g1, g2, g3⟩ := hbb.parts hm
    obtain ⟨q, cc, e1, e2, e3⟩ := row_sls hm h17 (by decide)
    rw [g1] at e3
    have hlq : qs.length = n := by
      have := congrArg List.length g1
      rw [List.length_map, List.length_map] at this
      rw [← this]; simpa using e2
    refine ⟨sls q 1 n (qs.map Part.v) :: qs.map Part.i, fun x hx => ?_, ?_⟩
    · rcases List.mem_cons.1 hx with rfl | hx
      · exact e3
      · exact g2 x hx
    · have := hS ks hk q n cc qs hlq (by omega) (by rw [g3]; omega)
      rw [g3] at this
      rw [key_dec]
      simp only [List.map_cons, List.map_nil, key_dec, e1]
      exact this
  · cases he
noncomputable def chR {β : Type} (n : Nat) : Nat → List AV → (List AV → β) → β := Nat.rec (motive := fun _ => Nat → List AV → (List AV → β) → β) (fun K l k => k (by32L K l)) (fun _ ih K l k => frcN (fun K' => ih K' (by32L K l) k) (nxN K)) n
theorem nxN_eq (ks : List B8) (hk : ks.length = 32) : nxN (num ks) = num (nextK ks) := by
  have h4 : (label ++ ks).length = 45 := by rw [List.length_append, hk]; rfl
  have h5 := sha_num (label ++ ks) (by rw [h4]; decide)
  rw [h4, num_append, hk, show (256 : Nat) ^ 32 = 115792089237316195423570985008687907853269984665640564039457584007913129639936 by kernel_rfl] at h5
  exact h5.symm
theorem by32L_eq (ks : List B8) (hk : ks.length = 32) (l : List AV) : by32L (num ks) l = ks.map avB ++ l := by
  rw [← by32_eq ks hk]; rfl
theorem chainL_cons (k : List B8) (n : Nat) : chainL k (n + 1) = k :: chainL (nextK k) n := by
  rw [chainL, List.range_succ_eq_map, List.map_cons, List.map_map]
  congr 1
  refine List.map_congr_left fun i _ => ?_
  show nextN k (i + 1) = nextN (nextK k) i
  rw [Nat.add_comm, nextN_add]; rfl
theorem chR_ok {β : Type} : ∀ (n : Nat) (ks : List B8), ks.length = 32 → ∀ (l : List AV) (k : List AV → β), chR n (num ks) l k = k (((chainL ks (n + 1)).reverse.flatMap fun x => x.map avB) ++ l)
  | 0, ks, hk, l, k => by
    show k (by32L (num ks) l) = _
    rw [by32L_eq ks hk, chainL_cons]
    simp [chainL]
  | n + 1, ks, hk, l, k => by
    show frcN (fun K' => chR n K' (by32L (num ks) l) k) (nxN (num ks)) = _
    rw [frcN_eq, nxN_eq ks hk, chR_ok n (nextK ks) (nextK_len ks), by32L_eq ks hk, chainL_cons ks (n + 1)]
    simp
noncomputable def hkKeys : Hk := fun _ h nx a => match a with
  | [k, .val (.int .i64 (.ofNat n))] => ob (key32 k) fun k => bo (Nat.ble 1 n && Nat.ble n 512) (chR n k [] fun l => ob (newF nx (.own 38 32 (Nat.succ n) l) (.tup [.sl nx 0 (Nat.succ n) false 0, .val (.int .i64 0)]) h) fun q => some (q.1, q.2, Nat.succ nx)) none
  | _ => none
theorem flatA_dec (θ : Vl) (L : List (List B8)) : (L.flatMap fun x => x.map avB).map (AV.dec θ) = flatK L := by
  rw [List.map_flatMap, flatK]
  congr 1
  funext x
  exact avB_dec θ x
theorem hkKeys_ok {f : Nat} (hO : okF Tryz.prog f = true) (hS : ∀ (k : List B8), k.length = 32 → ∀ (n : Nat), 1 ≤ n → n ≤ 512 → Spc Tryz.prog f #[.agg (bytes k).toArray, .int .i64 (n : Int)] [] [] (fun v I' H' => ∃ b cap, v = .tuple #[slO (some b) (n + 1) cap, .int .i64 0] ∧ I' = [] ∧ H' = [own (some b) cap 38 32 (n + 1) (flatK (chainL k (n + 1)).reverse)]))
    {hb h h' : Heap} {nx nx' : Nat} {args : List AV} {v : AV} (he : hkKeys hb h nx args = some (v, h', nx')) : FOk Tryz.prog f args h hb v h' := by
  unfold hkKeys at he
  split at he
  · next k n =>
    obtain ⟨K, h1, h2⟩ := ob_inv he
    obtain ⟨h3, h4⟩ := bo_inv h2
    rw [Bool.and_eq_true] at h3
    have n1 : 1 ≤ n := Nat.le_of_ble_eq_true h3.1
    have n2 : n ≤ 512 := Nat.le_of_ble_eq_true h3.2
    obtain ⟨ks, hk, rfl, rfl⟩ := key32_ok h1
    rw [chR_ok n ks hk, List.append_nil] at h4
    obtain ⟨⟨v1, h1'⟩, h11, h12⟩ := ob_inv h4
    rw [newF_eq] at h11
    cases h12
    obtain ⟨h0, rfl, hg⟩ := newB_inv h11
    refine ⟨okF_ok f hO, fun hi θ w hm hwa => ?_⟩
    have S := hS ks hk n n1 n2
    simp only [List.map_cons, List.map_nil, key_dec]
    refine (S w ⟨(fun _ h => by cases h), (fun _ h => by cases h), List.nodup_nil, (fun _ _ h => by cases h)⟩).mono ?_
    rintro e w' ⟨u, I', H', rfl, ⟨b, cap, rfl, hI, rfl⟩, hkp, hs, hb', -⟩
    have hA := hs.h _ (List.mem_singleton_self _)
    have hcap : n + 1 ≤ cap := hA.2.1
    refine ⟨_, rfl, ?_, inv_new hi h0 hg⟩
    refine post_new hm h0 hg (b, cap) hkp ?_ (fun x hx => ?_) (fun x hx => ?_) ?_ ?_
    · simp only [itA, upd_at, flatA_dec]; exact hA
    · simp only [itA, upd_at] at hx
      have hx' : x = b := by simpa [own] using hx
      subst hx'
      rcases hb' x (by simp [own, bss]) with h | h
      · cases h
      · exact h
    · obtain ⟨y, -, hy⟩ := List.mem_flatMap.1 hx
      exact wfL_iff.1 (avB_wf _ y) x hy
    · exact ⟨⟨by rw [hg, if_pos rfl]; rfl, by rw [upd_at]; exact hcap⟩, trivial, trivial⟩
    · simp only [AV.dec, AV.decL, upd_at]; rfl
  · cases he
end Go.Proofs.YtpaemkemknfmfaaGreatDoor

namespace Go.Proofs.YtpaemkemknfmfaaGreatDoor
open Go.PK Go.RowKit Go.Shelf
theorem bxtra : Builder.Extra Tryz.prog Tryz.lJoin_ren where
  sizeBuilder := by kernel_rfl
  liesBuilder := by kernel_rfl
  t5 := by kernel_rfl
  a5 := Tryz.isAgg5
  z5 := Tryz.sizeOf5
  v5 := Tryz.zeroValue5
  infoByte := by kernel_rfl
  cellsByte := by kernel_rfl
  sizeByte := by kernel_rfl
  neB5 := by decide
theorem join_any (c : B8) (q cap n : Nat) (l : List Tx) (hn : l.length = n) (hc : n ≤ cap) (hb : n ≤ 1000000) (hs : l.flatten.length ≤ 100000000) : Spc Tryz.prog 85 #[.slice (some ⟨q, 0, none⟩) n cap, .string (txt [c])] [sls (some ⟨q, 0, none⟩) 1 n (l.map strV)] [] (Is (strV (jnL c l))) := by
  subst hn
  by_cases h0 : l = []
  · subst h0
    exact Spc.ofB fun w hw => (Any.strings_Join_none Tryz.lJoin bxtra (some ⟨q, 0, none⟩) cap (txt [c]) w).mono (by
      rintro e w' ⟨rfl, rfl⟩
      exact ⟨rfl, Below.refl _ _⟩)
  · refine Spc.ofB fun w hw => ?_
    have hA : (sls (some ⟨q, 0, none⟩) 1 l.length (l.map strV)).A w := hw.i _ (List.Mem.head _)
    obtain ⟨-, hlt, hcell⟩ := hA
    have h1 : (l.map txt).length = l.length := by simp
    have e1 : (l.map txt).map (fun b => b.data.toList) = l.map (List.map UInt8.ofBitVec) := by rw [List.map_map]; exact List.map_congr_left fun a _ => txt_data a
    have e2 : Lib.join ((l.map txt).map (fun b => b.data.toList)) (txt [c]).data.toList = (jnL c l).map UInt8.ofBitVec := by
      rw [e1, txt_data, List.map_cons, List.map_nil, join_jn, ← jnL_map]
    have := Any.strings_Join Tryz.lJoin bxtra q 0 cap (l.map txt) (txt [c]) w (fun j x hj => by
      rw [List.getElem?_map] at hj
      cases hlj : l[j]? with
      | none => rw [hlj] at hj; cases hj
      | some s =>
        rw [hlj] at hj
        have := hcell j (strV s) (by rw [List.getElem?_map, hlj]; rfl)
        rw [add_none] at this
        rw [this, ← Option.some.inj hj]) (hlt (by intro h; exact h0 (List.length_eq_zero_iff.1 h))) (by rw [h1]; omega) (by rw [h1]; exact hc) (by
          have := jnL_len c l
          rw [e2, List.length_map]; omega)
    rw [h1, e2] at this
    exact this
end Go.Proofs.YtpaemkemknfmfaaGreatDoor

/-
  ES, part 3: texts joined.
-/
namespace Go.Proofs.YtpaemkemknfmfaaGreatDoor
open Go.PK
noncomputable def strF (x : AV) (ih : Option (List (List UInt8))) : Option (List (List UInt8)) := match x with
  | .val (.string s) => ob ih fun r => some (s.data.toList :: r)
  | _ => none
noncomputable def strL (l : List AV) : Option (List (List UInt8)) := List.rec (motive := fun _ => Option (List (List UInt8))) (some []) (fun x _ ih => strF x ih) l
def txU (l : List UInt8) : List B8 := l.map UInt8.toBitVec
theorem ofU (l : List UInt8) : (txU l).map UInt8.ofBitVec = l := by
  unfold txU
  rw [List.map_map]
  have : (UInt8.ofBitVec ∘ UInt8.toBitVec : UInt8 → UInt8) = id := by funext x; rfl
  rw [this, List.map_id]
theorem txt_txU (l : List UInt8) : txt (txU l) = ⟨⟨l⟩⟩ := by
  rw [txt, ofU]
theorem strL_ok (θ : Vl) : ∀ (l : List AV) (L : List (List UInt8)), strL l = some L → l.map (AV.dec θ) = (L.map txU).map strV
  | [], L, h => by cases h; rfl
  | x :: l, L, h => by
    replace h : strF x (strL l) = some L := h
    unfold strF at h
    split at h
    · next s =>
      obtain ⟨r, h1, h2⟩ := ob_inv h
      cases h2
      rw [List.map_cons, strL_ok θ l r h1, List.map_cons, List.map_cons]
      congr 1
      show Value.string s = Value.string (txt (txU s.data.toList))
      rw [txt_txU]
    · cases h
noncomputable def joinU (c : UInt8) (l : List (List UInt8)) : List UInt8 := List.rec (motive := fun _ => List UInt8) [] (fun x r ih => match r with
  | [] => x
  | _ :: _ => x ++ c :: ih) l
theorem joinU_eq (d : UInt8) : ∀ L : List (List UInt8), joinU d L = jnL d L
  | [] => rfl
  | [a] => rfl
  | a :: b :: r => by
    show a ++ d :: joinU d (b :: r) = _
    rw [joinU_eq d (b :: r)]; rfl
noncomputable def hkJoin : Hk := fun _ h nx a => match a with
  | [.sl id 0 n k c, .val (.string ⟨⟨[d]⟩⟩)] => bo (bo k (Nat.ble n c) true && Nat.blt n 1000) (ob (rowC 1 (.sl id 0 n k c) h) fun q => ob (strL q.2) fun l => bo (Nat.ble l.flatten.length 1000000) (some (.val (.string ⟨⟨joinU d l⟩⟩), h, nx)) none) none
  | _ => none
theorem hkJoin_ok {f : Nat} (hO : okF Tryz.prog f = true) (hS : ∀ (c : B8) (q cap n : Nat) (l : List Tx), l.length = n → n ≤ cap → n ≤ 1000000 → l.flatten.length ≤ 100000000 → Spc Tryz.prog f #[.slice (some ⟨q, 0, none⟩) n cap, .string (txt [c])] [sls (some ⟨q, 0, none⟩) 1 n (l.map strV)] [] (Is (strV (jnL c l))))
    {hb h h' : Heap} {nx nx' : Nat} {args : List AV} {v : AV} (he : hkJoin hb h nx args = some (v, h', nx')) : FOk Tryz.prog f args h hb v h' := by
  unfold hkJoin at he
  split at he
  · next id n k c d =>
    obtain ⟨h1, h2⟩ := bo_inv he
    rw [Bool.and_eq_true] at h1
    obtain ⟨⟨m, xs⟩, h3, h4⟩ := ob_inv h2
    obtain ⟨L, h5, h6⟩ := ob_inv h4
    obtain ⟨h7, h8⟩ := bo_inv h6
    cases h8
    have hn : n < 1000 := Nat.le_of_ble_eq_true h1.2
    have hfl : L.flatten.length ≤ 1000000 := Nat.le_of_ble_eq_true h7
    have hrow := rowC_ok h3
    refine .quiet hO (fun A => trivial) fun θ w hm hwa => ?_
    obtain ⟨p, cc, e1, e2, e3⟩ := row_sls hm hrow (by decide)
    have hnc : n ≤ (bif k then c else (θ id).2 - c) := by
      cases k with
      | true => exact Nat.le_of_ble_eq_true h1.1
      | false =>
        have h9 : AH θ h id (n + c) := hwa (.sl id 0 n false c) (by simp)
        have := h9.2
        show n ≤ (θ id).2 - c
        omega
    have e1 : Value.slice (some ⟨(θ id).1, 0, none⟩) n (bif k then c else (θ id).2 - c) = .slice p m cc := e1
    injection e1 with e4 e5 e6
    subst e4 e5 e6
    rw [strL_ok θ xs L h5] at e3
    have hl : (L.map txU).length = n := by
      have h9 := congrArg List.length (strL_ok θ xs L h5)
      rw [List.length_map, List.length_map] at h9
      rw [← h9]; simpa using e2
    have hfl2 : ((L.map txU).flatten).length = L.flatten.length := by
      rw [List.length_flatten, List.length_flatten, List.map_map]
      exact congrArg List.sum (List.map_congr_left fun x _ => by simp [txU])
    refine ⟨[sls (some ⟨(θ id).1, 0, none⟩) 1 n ((L.map txU).map strV)], fun x hx => (by rw [List.mem_singleton.1 hx]; exact e3), ?_⟩
    have S := hS d.toBitVec (θ id).1 _ n (L.map txU) hl hnc (by omega) (by omega)
    have e7 : strV (jnL d.toBitVec (L.map txU)) = .string ⟨⟨joinU d L⟩⟩ := by
      show Value.string (txt (jnL d.toBitVec (L.map txU))) = _
      have e8 : (L.map txU).map (List.map UInt8.ofBitVec) = L := by
        rw [List.map_map]
        exact List.map_id'' ofU L
      rw [txt, jnL_map, e8, joinU_eq]
    rw [e7, show txt [d.toBitVec] = ⟨⟨[d]⟩⟩ from txt_txU [d]] at S
    exact S
  · cases he
end Go.Proofs.YtpaemkemknfmfaaGreatDoor
