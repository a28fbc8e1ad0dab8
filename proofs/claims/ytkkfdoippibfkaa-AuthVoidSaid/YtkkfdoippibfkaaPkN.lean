/-
  PK, part N: arrays as slices, texts, cells of one's own slice.
-/
import Derived.Test.YtkkfdoippibfkaaPkM
import Derived.Laws.BytesString
namespace Go.PK

/-- A text: its bytes. -/
def txt (l : List B8) : ByteArray := ⟨(l.map UInt8.ofBitVec).toArray⟩
theorem txt_size (l : List B8) : (txt l).size = l.length := by simp [txt, ByteArray.size]
theorem txt_get (l : List B8) (i : Nat) (h : i < (txt l).size) : ((txt l)[i]'h).toNat = (l[i]'(by rw [txt_size] at h; exact h)).toNat := by
  show (((l.map UInt8.ofBitVec).toArray)[i]'(by simpa [txt_size] using h)).toNat = _
  simp
theorem map_bits (l : List B8) : (l.map UInt8.ofBitVec).map UInt8.toBitVec = l := by
  rw [List.map_map]
  conv => rhs; rw [← List.map_id l]
  exact List.map_congr_left (fun b _ => rfl)
theorem map_inj {a b : List B8} (h : a.map UInt8.ofBitVec = b.map UInt8.ofBitVec) : a = b := by
  have := congrArg (List.map UInt8.toBitVec) h
  rwa [map_bits, map_bits] at this
theorem txt_inj {a b : List B8} (h : txt a = txt b) : a = b := by
  have h2 : (txt a).data.toList = (txt b).data.toList := by rw [h]
  exact map_inj (by simpa [txt] using h2)
theorem txt_of (s : ByteArray) : ∃ l, s = txt l := by
  refine ⟨s.data.toList.map UInt8.toBitVec, ?_⟩
  cases s with
  | mk d =>
    have : (d.toList.map UInt8.toBitVec).map UInt8.ofBitVec = d.toList := by
      rw [List.map_map]; conv => rhs; rw [← List.map_id d.toList]
      apply List.map_congr_left; intro b _; rfl
    simp only [txt, this]
theorem txt_fold : ∀ (l : List B8) (s : List B8), (l.map fun b => (b.toNat : Int)).foldl (fun r n => r.push (UInt8.ofNat n.toNat)) (txt s) = txt (s ++ l)
  | [], s => by simp
  | b :: l, s => by
    rw [List.map_cons, List.foldl_cons]
    have : (txt s).push (UInt8.ofNat (b.toNat : Int).toNat) = txt (s ++ [b]) := by
      have hb : UInt8.ofNat (b.toNat : Int).toNat = UInt8.ofBitVec b := by
        apply UInt8.toBitVec_inj.1
        apply BitVec.eq_of_toNat_eq
        simp
      rw [hb]
      show (⟨_⟩ : ByteArray) = ⟨_⟩
      simp
    rw [this, txt_fold l (s ++ [b]), List.append_assoc]; rfl

section
variable {P : Program} {L : List Oper} {ef bk : List Nat} {tq : Tq} {Q : Exit → Act → World → Prop} {N : Nat} {E : Env} {w0 : World} {S : List Nat} {I H : List It} {i : Nat} {l : Sq}
variable {d : Nat} {x y z : Operand} {ty t yt : TypeId} {pos : String} {af : Array Edge} {g : Option (Nat × Bool)} {v : Value} {k k' : IntKind} {m n : Int}

theorem zeroCells_one (z : Value) (n : Nat) : Builtin.zeroCells #[z] n = (List.replicate n z).toArray := by
  apply Array.toList_inj.1
  simp [Builtin.zeroCells, Nat.mod_one]
  apply List.ext_getElem?
  intro i
  by_cases h : i < n <;> simp [h]

/-- 'append(s, make([]T, n)...)', to a slice of one's own, of elements of one cell. -/
theorem run_appendMk {e ti : TypeId} {bytes : Nat} (T : ElemT P t e 1 bytes) {z0 : Value} (hz0 : ∀ ii z, P.info? e = some ii → ii.zero = some z → z.cells = #[z0]) (h1 : z0.oneCell' = true) (hti : ∀ w, (underlying ti).run P w = .ok (.int .i64) w) {ob : Option Nat} {cap nn mm : Nat} {xs : List Value} {w : World} (hA : (own ob cap e 1 nn xs).A w)
    (hm : nn + mm ≤ maxLen) (hby : (nn + mm) * bytes ≤ 140737488355328) :
    ∃ ob' cap' w', (Builtin.append_ #[t, ti] ty #[slO ob nn cap, .int .i64 (mm : Int)]).run P w = .ok (slO ob' (nn + mm) cap') w' ∧ (own ob' cap' e 1 (nn + mm) (xs ++ List.replicate mm z0)).A w' ∧ Keeps ob.toList w w' ∧
      (∀ b ∈ ob'.toList, b ∈ ob.toList ∨ w.heap.size ≤ b) ∧ (nn + mm = 0 ∨ ob'.isSome = true) := by
  obtain ⟨ii, z', hi, hz, hsz, hb, hzs⟩ := T.inf
  have hzc := hz0 ii z' hi hz
  have h63 : ((nn + mm : Nat) : Int) ≤ 9223372036854775807 := by simp only [maxLen] at hm; omega
  have hwr : IntKind.i64.wrap (mm : Int) = (mm : Int) := IntWalk.i64_in _ (by omega)
  have hneg : ¬ ((mm : Int) < 0) := by omega
  subst hb
  have hmb : mm * ii.bytes ≤ 140737488355328 := Nat.le_trans (Nat.mul_le_mul_right _ (by omega)) hby
  have h48a : ¬ ((281474976710656 : Int) < (mm : Int) * (ii.bytes : Int)) := by
    have : ((mm * ii.bytes : Nat) : Int) = (mm : Int) * (ii.bytes : Int) := by simp
    omega
  have happ : (if mm * ii.size = 0 then pure #[] else do pure (Builtin.zeroCells (← zeroValue e).cells mm) : Sem (Array Value)) = (if mm = 0 then pure #[] else do pure (Builtin.zeroCells (← zeroValue e).cells mm) : Sem (Array Value)) := by rw [hsz, Nat.mul_one]
  have hnew : ∀ w, (if mm = 0 then pure #[] else do pure (Builtin.zeroCells (← zeroValue e).cells mm) : Sem (Array Value)).run P w = .ok (List.replicate mm z0).toArray w := by
    intro w
    by_cases h0 : mm = 0
    · subst h0; simp
    · simp [h0, zeroValue, typeInfo, hi, hz, hzc, zeroCells_one]
  have hlen : (xs ++ List.replicate mm z0).length = (nn + mm) * 1 := by rw [List.length_append, hA.1]; simp
  have grown : ∀ (old : Nat), old < nn + mm →
      (own (some w.heap.size) (grownCap w (nn + mm) old e) e 1 (nn + mm) (xs ++ List.replicate mm z0)).A
        (w.drew.alloc (.cells (xs.toArray ++ (List.replicate mm z0).toArray ++ Builtin.zeroCells #[z0] (grownCap w (nn + mm) old e - (nn + mm))) e)) ∧
      Keeps ob.toList w (w.drew.alloc (.cells (xs.toArray ++ (List.replicate mm z0).toArray ++ Builtin.zeroCells #[z0] (grownCap w (nn + mm) old e - (nn + mm))) e)) := by
    intro old ho
    have hge := grownCap_ge w (nn + mm) old e
    have hcm : grownCap w (nn + mm) old e ≤ maxLen := grownCap_le_maxLen w (nn + mm) old e hm
    refine ⟨⟨hlen, hge, hcm, List.replicate (grownCap w (nn + mm) old e - (nn + mm)) z0, ?_, ?_⟩, (Keeps.drew _ w _ (Nat.le_succ _)).trans (Keeps.alloc _ w.drew _)⟩
    · refine ⟨(0, 0), ?_, .inl rfl⟩
      have := heap_alloc_same w.drew (.cells (xs.toArray ++ (List.replicate mm z0).toArray ++ Builtin.zeroCells #[z0] (grownCap w (nn + mm) old e - (nn + mm))) e)
      have hs : w.drew.heap.size = w.heap.size := rfl
      rw [hs] at this
      rw [this, zeroCells_one]
      congr 2
      apply Array.toList_inj.1
      simp
    · rw [List.length_append, hlen, List.length_replicate]; omega
  cases ob with
  | none =>
    obtain ⟨hx0, hn0, hc0⟩ := hA
    subst hn0; subst hc0
    have hxs : xs = [] := List.eq_nil_of_length_eq_zero (by simpa using hx0)
    subst hxs
    by_cases hm0 : mm = 0
    · refine ⟨none, 0, w, ?_, ⟨by simp [hm0], by simp [hm0]⟩, Keeps.refl _ _, by simp, .inl (by omega)⟩
      simp [Builtin.append_, run_underlying T.ut, sizeOf, typeInfo, hi, slO, hti, asInt, asIntOf, hm0, hsz, show IntKind.i64.wrap 0 = 0 from rfl]
    · obtain ⟨g1, g2⟩ := grown 0 (by omega)
      have h48' : ¬ (281474976710656 < Builtin.nextslicecap mm 0 * ii.bytes) := by rw [nextslicecap_zero (by omega)]; omega
      refine ⟨some w.heap.size, _, _, ?_, g1, g2, by simp, .inr rfl⟩
      simp [Builtin.append_, run_underlying T.ut, sizeOf, typeInfo, hi, slO, hti, asInt, asIntOf, hwr, hneg, h48a, hm0, hsz, show ¬ ((9223372036854775807 : Int) < (mm : Int)) by omega, h48', Question.forced, run_firstCells_none, zeroValue, hz, hzc, zeroCells_one, newRow, grownCap]
  | some b =>
    obtain ⟨hx0, hnc, hcm, rest, ⟨f, hg, hfz⟩, hgl⟩ := hA
    by_cases hroom : nn + mm ≤ cap
    · have hst := run_storeCells_atF (P := P) b nn e f (List.replicate mm z0) 0 (xs ++ rest).toArray w (hfz.imp id (fun h => by rw [List.size_toArray, hgl]; exact h)) hg (by simp at hgl hx0 ⊢; omega) (by intro u hu; rw [List.eq_of_mem_replicate hu]; exact h1)
      have hx1 : xs.length = nn := by simpa using hx0
      have htk : (xs ++ rest).take nn = xs := by rw [← hx1]; exact List.take_left
      simp only [Nat.add_zero, List.length_replicate, htk] at hst
      refine ⟨some b, cap, w.setRow b (xs ++ List.replicate mm z0 ++ (xs ++ rest).drop (nn + mm)).toArray, ?_, ⟨hlen, hroom, hcm, (xs ++ rest).drop (nn + mm), ⟨f, setRow_heap w b _ _ e _ hg, hfz⟩, ?_⟩, Keeps.setRow, by simp, .inr rfl⟩
      · simp [Builtin.append_, run_underlying T.ut, sizeOf, typeInfo, hi, slO, hti, asInt, asIntOf, hwr, hneg, h48a, hroom, hsz]
        by_cases hm0 : mm = 0
        · subst hm0
          simp only [List.replicate_zero, List.append_nil] at hst
          simp only [storeCells, Nat.add_zero]
          have hdr : (xs ++ rest).drop nn = rest := by rw [← hx1]; exact List.drop_left
          simp only [List.replicate_zero, List.append_nil, List.nil_append, hdr]
          rw [setRow_self w b _ e f hg]
          simp
        · simp [hm0, zeroValue, typeInfo, hi, hz, hzc, zeroCells_one, Addr.add_lit, hst]
      · rw [List.length_append, hlen, List.length_drop, hgl]; omega
    · obtain ⟨g1, g2⟩ := grown cap (by omega)
      have holds : ∀ j u, xs[j]? = some u → w.cell? ((⟨b, 0, none⟩ : Addr).add j) = some u := fun j u hj => by
        have hlt : j < xs.length := (List.getElem?_eq_some_iff.1 hj).1
        rw [add_none]
        simp only [World.cell?, hg]
        simp [List.getElem?_append, hlt, (List.getElem?_eq_some_iff.1 hj).2]
      have hfo := run_firstCells_some (P := P) w.drew ii.size nn ⟨b, 0, none⟩ nn cap xs (by rw [hx0, hsz]) (by simpa using holds)
      rw [hsz] at hfo
      have hfit := growslice_fits (need := nn + mm) (old := cap) (by omega) hby
      have h48' : ¬ (281474976710656 < Builtin.nextslicecap (nn + mm) cap * ii.bytes) := by omega
      refine ⟨some w.heap.size, _, _, ?_, g1, g2, by simp, .inr rfl⟩
      simp [Builtin.append_, run_underlying T.ut, sizeOf, typeInfo, hi, slO, hti, asInt, asIntOf, hwr, hneg, h48a, hroom, hsz, show ¬ ((9223372036854775807 : Int) < (nn : Int) + (mm : Int)) by omega, h48', Question.forced, hfo, zeroValue, hz, hzc, zeroCells_one, newRow, grownCap]
      by_cases hm0 : mm = 0
      · omega
      · simp [hm0]

theorem RL.appendMk {e ti : TypeId} {bytes : Nat} {ob : Option Nat} {cap nn mm : Nat} {xs : List Value} {B : List It} {vx : Value} {z0 : Value} (T : ElemT P t e 1 bytes) (hz0 : ∀ ii z, P.info? e = some ii → ii.zero = some z → z.cells = #[z0]) (h1 : z0.oneCell' = true) (hti : ∀ w, (underlying ti).run P w = .ok (.int .i64) w)
    (ho : nth L i = some ⟨some d, .call ⟨.builtin .append, #[x, y], #[t, ti]⟩, ty, pos, af, g⟩) (hw : wants L E ⟨some d, .call ⟨.builtin .append, #[x, y], #[t, ti]⟩, ty, pos, af, g⟩ = true) (hN : Nat.blt d N = true) (hi : ef.contains i = true) (hb : bk.contains i = true)
    (hx : E.ev x = some vx) (hy : E.ev y = some (.int .i64 (mm : Int))) (hp : Pick H [PK.own ob cap e 1 nn xs] B ∧ vx = slO ob nn cap) (hm : nn + mm ≤ maxLen) (hby : (nn + mm) * bytes ≤ 140737488355328)
    (h : ∀ ob' cap', (nn + mm = 0 ∨ ob'.isSome = true) → RL P L ef bk tq Q l N ((d, slO ob' (nn + mm) cap') :: E) w0 S I (PK.own ob' cap' e 1 (nn + mm) (xs ++ List.replicate mm z0) :: B)) :
    RL P L ef bk tq Q (.cons i l) N E w0 S I H := by
  obtain ⟨hp, rfl⟩ := hp
  refine RL.eff ho hw hi rfl hN (fun a w ha hC => ?_)
  have hA : (PK.own ob cap e 1 nn xs).A w := hC.s.h _ (hp.memA _ (by simp))
  obtain ⟨ob', cap', w', r1, r2, r3, r4, r5⟩ := run_appendMk (ty := ty) T hz0 h1 hti hA hm hby
  have hr : (execOp a.eval ⟨some d, .call ⟨.builtin .append, #[x, y], #[t, ti]⟩, ty, pos, af, g⟩).run P w = .ok (.value (slO ob' (nn + mm) cap')) w' := by
    simp only [BigFrame.execOp_builtin, BigFrame.builtin_append, List.map_toArray, List.map_cons, List.map_nil, ha.ev hx, ha.ev hy]
    simp [r1]
  unfold does
  rw [hr]
  have hs' : Sat [] [PK.own ob' cap' e 1 (nn + mm) (xs ++ List.replicate mm z0)] w' := ⟨by simp, by simpa using r2, by cases ob' <;> simp [PK.own], by simp⟩
  have hk : Keeps (bss [PK.own ob cap e 1 nn xs]) w w' := by simpa [PK.own] using r3
  have := hC.call (C := []) hp .nil hk hs' (by simpa [PK.own] using r4) (by simp)
  exact ⟨I, _, this, fun _ h => h, fun hbk => (by rw [hb] at hbk; cases hbk), h ob' cap' r5⟩

/-- 'string(b)'. -/
theorem RL.bytesStr {e : TypeId} {p : Option Addr} {cap mm : Nat} {bs : List B8} (hs : P.underlying t = some (.slice e)) (he : P.underlying e = some (.int .u8)) (hd : P.underlying yt = some .string)
    (ho : nth L i = some ⟨some d, .convert t yt x, ty, pos, af, g⟩) (hw : wants L E ⟨some d, .convert t yt x, ty, pos, af, g⟩ = true) (hN : Nat.blt d N = true) (hx : E.ev x = some (.slice p mm cap))
    (hS : Src I H p mm 1 (bs.map U8)) (h : RL P L ef bk tq Q l N ((d, .string (txt bs)) :: E) w0 S I H) (ht : tq.l.contains i = false := by rfl) : RL P L ef bk tq Q (.cons i l) N E w0 S I H :=
  RL.val ho hw rfl hN (fun a w ha hC => by
    obtain ⟨g1, g2, g3⟩ := hS w hC.s
    have hlen : bs.length = mm := by simpa using g1
    show Sem.run P (do pure (Next.value (← convert t yt (a.eval x)))) w = _
    rw [ha.ev hx]
    simp only [Sem.run_bind, run_convert_bytes_string w t yt e p mm cap hs he hd]
    cases p with
    | none =>
      have : bs = [] := List.eq_nil_of_length_eq_zero (by rw [hlen]; exact g2 rfl)
      subst this
      simp [Conv.bytesToString, txt]; rfl
    | some q =>
      have hl := run_loadCells_list (P := P) w q (bs.map U8) (g3 q rfl)
      rw [List.length_map, hlen] at hl
      have hm : bs.map U8 = (bs.map fun b => (b.toNat : Int)).map (Value.int .u8) := by rw [List.map_map]; rfl
      rw [hm] at hl
      rw [run_bytesToString w q mm cap _ hl]
      have := txt_fold bs []
      rw [show txt [] = ByteArray.empty from rfl] at this
      rw [this]; simp) h rfl ht

theorem txt_toList (l : List B8) : (txt l).toList = l.map UInt8.ofBitVec := by rw [ByteArray.toList_eq]; simp [txt]
theorem txt_beq (a b : List B8) : ((txt a).toList == (txt b).toList) = (a == b) := by
  rw [txt_toList, txt_toList]
  by_cases h : a = b
  · subst h; simp
  · have h2 : ¬ a.map UInt8.ofBitVec = b.map UInt8.ofBitVec := fun e => h (map_inj e)
    rw [Bool.eq_iff_iff]
    simp only [beq_iff_eq]
    exact ⟨fun e => absurd e h2, fun e => absurd e h⟩
theorem eql_txt (a b : List B8) (w : World) : (do eqGuard .eql t x y (.string (txt a)) (.string (txt b)); binOp .eql t (.string (txt a)) (.string (txt b)) : Sem Value).run P w = .ok (.bool (a == b)) w := by
  simp [eqGuard, binOp, Op.stringOp, txt_beq]
theorem neq_txt (a b : List B8) (w : World) : (do eqGuard .neq t x y (.string (txt a)) (.string (txt b)); binOp .neq t (.string (txt a)) (.string (txt b)) : Sem Value).run P w = .ok (.bool (!(a == b))) w := by
  simp [eqGuard, binOp, Op.stringOp, txt_beq]

/-- '[N]T(s)'. -/
theorem RL.toArr {e : TypeId} {p : Option Addr} {len cap nn : Nat} (hu : ∀ w, (underlying t).run P w = .ok (.array nn e) w) (ho : nth L i = some ⟨some d, .sliceToArrayPointer t x, ty, pos, af, g⟩) (hw : wants L E ⟨some d, .sliceToArrayPointer t x, ty, pos, af, g⟩ = true) (hN : Nat.blt d N = true)
    (hx : E.ev x = some (.slice p len cap)) (hl : nn ≤ len) (h : RL P L ef bk tq Q l N ((d, .pointer p) :: E) w0 S I H) : RL P L ef bk tq Q (.cons i l) N E w0 S I H :=
  RL.pval ho hw rfl hN (fun a w ha => by
    have : ¬ len < nn := by omega
    simp [execOp, ha.ev hx, Instr.arrayAt, hu, this]) h

/-- 'a[:]' of an array. -/
theorem RL.sliceAll {e : TypeId} {b off len sz : Nat} (hu : ∀ w, (underlying t).run P w = .ok (.array len e) w) (hs : ∀ w, (sizeOf e).run P w = .ok sz w) (hl : 0 < len) (ho : nth L i = some ⟨some d, .slice t x none none none, ty, pos, af, g⟩) (hw : wants L E ⟨some d, .slice t x none none none, ty, pos, af, g⟩ = true) (hN : Nat.blt d N = true)
    (hx : E.ev x = some (.pointer (some ⟨b, off, none⟩))) (h : RL P L ef bk tq Q l N ((d, .slice (some ⟨b, off, none⟩) len len) :: E) w0 S I H) : RL P L ef bk tq Q (.cons i l) N E w0 S I H :=
  RL.sliceA (lo := 0) (hi := len) hu hs ho hw hN hx rfl rfl (Nat.zero_le _) (Nat.le_refl _) hl (by simpa using h)

/-- A whole block read, written. -/
theorem RL.loadW {b nn : Nat} {vs : List Value} {T : TypeId} (hag : ∀ w, (isAgg t).run P w = .ok true w) (hs : ∀ w, (sizeOf t).run P w = .ok nn w) (ho : nth L i = some ⟨some d, .load t x, ty, pos, af, g⟩) (hw : wants L E ⟨some d, .load t x, ty, pos, af, g⟩ = true) (hN : Nat.blt d N = true)
    (hx : E.ev x = some (.pointer (some ⟨b, 0, none⟩))) (hm : PK.cel b vs T ∈ H) (hl : vs.length = nn) (h : RL P L ef bk tq Q l N ((d, .agg vs.toArray) :: E) w0 S I H) (ht : tq.l.contains i = false := by rfl) : RL P L ef bk tq Q (.cons i l) N E w0 S I H :=
  RL.loadN hag (by rw [hl]; exact hs) ho hw hN hx (Rds.all hm) h ht
theorem RL.loadWI {b nn : Nat} {vs : List Value} {T : TypeId} (hag : ∀ w, (isAgg t).run P w = .ok true w) (hs : ∀ w, (sizeOf t).run P w = .ok nn w) (ho : nth L i = some ⟨some d, .load t x, ty, pos, af, g⟩) (hw : wants L E ⟨some d, .load t x, ty, pos, af, g⟩ = true) (hN : Nat.blt d N = true)
    (hx : E.ev x = some (.pointer (some ⟨b, 0, none⟩))) (hm : PK.cel b vs T ∈ I) (hl : vs.length = nn) (h : RL P L ef bk tq Q l N ((d, .agg vs.toArray) :: E) w0 S I H) (ht : tq.l.contains i = false := by rfl) : RL P L ef bk tq Q (.cons i l) N E w0 S I H :=
  RL.loadN hag (by rw [hl]; exact hs) ho hw hN hx (Rds.allI hm) h ht
theorem RL.storeW {b nn : Nat} {cs vs : List Value} {T : TypeId} {H' : List It} (hs : ∀ w, (sizeOf t).run P w = .ok nn w) (ho : nth L i = some ⟨none, .store t x y, ty, pos, af, g⟩) (hw : wants L E ⟨none, .store t x y, ty, pos, af, g⟩ = true)
    (hi : ef.contains i = true) (hb : bk.contains i = true) (hx : E.ev x = some (.pointer (some ⟨b, 0, none⟩))) (hy : E.ev y = some v) (hc : v.cells = vs.toArray) (h1 : ones vs = true)
    (hu : Upd H (PK.cel b cs T) (PK.cel b vs T) H') (hv : vs.length = nn) (hl : cs.length = nn) (h : RL P L ef bk tq Q l N E w0 S I H') : RL P L ef bk tq Q (.cons i l) N E w0 S I H :=
  RL.storeX (spl_all (by rw [hv, hl])) (by rw [hv]; exact hs) ho hw hi hb hx hy hc h1 hu (by omega) h
theorem resW {fn : Func} {tt : Tmp} {T C : TypeId} {b nn : Nat} {vs : List Value} (hf : fn.results = #[.cell tt T]) (ht : E.get tt = some (.pointer (some ⟨b, 0, none⟩))) (hag : ∀ w, (isAgg T).run P w = .ok true w) (hs : ∀ w, (sizeOf T).run P w = .ok nn w) (hm : PK.cel b vs C ∈ H) (hl : vs.length = nn) :
    ∀ a w, Ag N a E → Cls w0 S I H w → (results fn a.tmps).run P w = .ok (.agg vs.toArray) w := resC hf ht hag (by rw [hl]; exact hs) (Rds.all hm)

/-- Some cells of a block read. -/
theorem RL.loadP {b off nn : Nat} {cs : List Value} {T : TypeId} (hag : ∀ w, (isAgg t).run P w = .ok true w) (hs : ∀ w, (sizeOf t).run P w = .ok nn w) (ho : nth L i = some ⟨some d, .load t x, ty, pos, af, g⟩) (hw : wants L E ⟨some d, .load t x, ty, pos, af, g⟩ = true) (hN : Nat.blt d N = true)
    (hx : E.ev x = some (.pointer (some ⟨b, off, none⟩))) (hm : PK.cel b cs T ∈ H) (hl : off + nn ≤ cs.length) (h : RL P L ef bk tq Q l N ((d, .agg ((cs.drop off).take nn).toArray) :: E) w0 S I H) (ht : tq.l.contains i = false := by rfl) : RL P L ef bk tq Q (.cons i l) N E w0 S I H :=
  RL.loadN hag (by rw [List.length_take, List.length_drop, Nat.min_eq_left (by omega)]; exact hs) ho hw hN hx (Rds.cel hm (fun j u hj => by
    rw [List.getElem?_take] at hj
    split at hj
    · rwa [List.getElem?_drop] at hj
    · cases hj)) h ht

theorem resWT {fn : Func} {tt uu : Tmp} {T C : TypeId} {b nn : Nat} {vs : List Value} {v2 : Value} (hf : fn.results = #[.cell tt T, .tmp uu]) (ht : E.get tt = some (.pointer (some ⟨b, 0, none⟩))) (hu : E.get uu = some v2) (hag : ∀ w, (isAgg T).run P w = .ok true w) (hs : ∀ w, (sizeOf T).run P w = .ok nn w) (hm : PK.cel b vs C ∈ H) (hl : vs.length = nn) :
    ∀ a w, Ag N a E → Cls w0 S I H w → (results fn a.tmps).run P w = .ok (.tuple #[.agg vs.toArray, v2]) w := fun a w ha hC => by
  have h1 := run_isAggT (P := P) hag (by rw [hl]; exact hs) (Rds.all (I := I) hm w hC.s)
  simp [results, hf, ha.t tt _ ht, ha.t uu _ hu, asAddr, h1]

/-- A block of cells is told from here on, as a slice. -/
theorem CW.tellC {c : Code} {b sz nn : Nat} {T : TypeId} {cs : List Value} {B : List It} (hl : cs.length = nn * sz) (hp : Pick H [PK.cel b cs T] B)
    (h : (S = [] → w0.heap.size ≤ b) → CW P c Q N E w0 S (PK.sls (some ⟨b, 0, none⟩) sz nn cs :: I) B) : CW P c Q N E w0 S I H := by
  refine CW.fact (p := S = [] → w0.heap.size ≤ b) (fun w hC hS => ?_) (fun hf => ?_)
  · have hm : b ∈ bss H := mem_bss.2 ⟨_, hp.memA _ (List.Mem.head _), List.Mem.head _⟩
    by_cases hlt : b < w0.heap.size
    · have := hC.own b hm hlt
      rw [hS] at this; cases this
    · omega
  · refine CW.freeze hp (CW.also _ (fun w hw => cel_sls (hw.i _ (List.Mem.head _)) hl (fun j u hj => by rw [Nat.zero_add]; exact hj)) (fun c hc => mem_bss.2 ⟨_, List.Mem.head _, ?_⟩) (CW.les (fun x hx => ?_) (Les.refl _) (h hf)))
    · by_cases hn : nn = 0 <;> simp_all [PK.sls, PK.cel]
    · rcases List.mem_cons.1 hx with rfl | hx
      · exact List.Mem.head _
      · exact List.mem_cons_of_mem _ (List.mem_cons_of_mem _ hx)

/-- A store into one's own slice. -/
theorem RL.storeO {b cap sz nn off : Nat} {e : TypeId} {xs vs xs' : List Value} {p : Addr} {H' : List It} (he : spl xs off vs = xs') (hs : ∀ w, (sizeOf t).run P w = .ok vs.length w) (ho : nth L i = some ⟨none, .store t x y, ty, pos, af, g⟩) (hw : wants L E ⟨none, .store t x y, ty, pos, af, g⟩ = true)
    (hi : ef.contains i = true) (hb : bk.contains i = true) (hx : E.ev x = some (.pointer (some p))) (hpp : p = (⟨b, 0, none⟩ : Addr).add off) (hy : E.ev y = some v) (hc : v.cells = vs.toArray) (h1 : ones vs = true) (hl : off + vs.length ≤ xs.length)
    (hu : Upd H (own (some b) cap e sz nn xs) (own (some b) cap e sz nn xs') H') (h : RL P L ef bk tq Q l N E w0 S I H') : RL P L ef bk tq Q (.cons i l) N E w0 S I H := by
  subst he
  refine RL.turn0 ho hw hi hb rfl hu rfl (fun a w ha hC => ?_) h
  obtain ⟨q1, q2, q3, rest, ⟨f, hA, hfz⟩, q5⟩ := hC.s.h _ hu.mem
  have hst := run_storeCells_atF (P := P) b off e f vs 0 (xs ++ rest).toArray w (hfz.imp id (fun h => by rw [List.size_toArray, q5]; exact h)) hA (by simp; omega) (ones_spec h1)
  refine ⟨w.setRow b (spl xs off vs ++ rest).toArray, ?_, Keeps.setRow, ?_⟩
  · simp only [Nat.add_zero] at hst
    have e2 : (xs ++ rest).take off ++ vs ++ (xs ++ rest).drop (off + vs.length) = spl xs off vs ++ rest := by
      rw [spl_eq _ _ _ hl, List.take_append_of_le_length (by omega), List.drop_append_of_le_length hl, ← List.append_assoc]
    rw [add_none, Nat.zero_add] at hpp
    subst hpp
    rw [e2] at hst
    simp [execOp, ha.ev hx, ha.ev hy, Instr.storeAt, Instr.sureAddr, storeVar, hs, hc, hst]
  · refine ⟨by rw [spl_length]; exact q1, q2, q3, rest, ⟨f, setRow_heap w b _ _ e _ hA, hfz⟩, ?_⟩
    rw [List.length_append, spl_length, ← List.length_append]; exact q5
end

/-- A text that came in. -/
noncomputable def Rdr.text {P : Program} {t : TypeId} (hu : P.underlying t = some .string) (hc : P.cellsOf t = 1) : Rdr P t (List B8) :=
  (Rdr.string hu hc).map (fun l => [.string (txt l)]) (fun _ => []) (fun l => l.length ≤ maxLen) (fun l => .string (txt l))
    (fun s hs => by
      obtain ⟨l, rfl⟩ := txt_of s
      exact ⟨l, rfl, by rw [← txt_size]; exact hs, by simp⟩)
    (fun _ _ => by simp [hc]) (fun hv h => cells_single (okWide_notagg hv (by simp [hu]) (by simp [hu])) h)
end Go.PK
