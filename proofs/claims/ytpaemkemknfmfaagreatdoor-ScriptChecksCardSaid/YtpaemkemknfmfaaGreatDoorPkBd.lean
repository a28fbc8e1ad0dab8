/-
  PK: what package strings' Builder needs: a text appended to bytes, bytes read as a text, a pointer turned about.
-/
import Derived.Test.YtpaemkemknfmfaaGreatDoorPE
import Derived.Lib.AppendStr
import Derived.Lib.UnsafeStr
import Derived.Lib.Builder
set_option linter.unusedVariables false
set_option linter.unusedSimpArgs false
namespace Go.PK
section
variable {P : Program} {L : List Oper} {ef bk : List Nat} {tq : Tq} {Q : Exit → Act → World → Prop} {N : Fm} {E : Env} {w0 : World} {S : List Nat} {I H : List It} {i : Nat} {l : Sq}
variable {d : Nat} {x y : Operand} {ty t u yt : TypeId} {pos : String} {af : Array Edge} {g : Option (Nat × Bool)}
theorem strCells_txt (s : List B8) : Go.Lib.strCells (txt s) = s.map U8 := by
  rw [Go.Lib.strCells_eq, Go.Lib.byteCells]
  show List.map _ (s.map UInt8.ofBitVec).toArray.toList = _
  rw [List.map_map]; rfl
theorem run_appendS {e : TypeId} (T : ElemT P t e 1 1) (hu : P.underlying u = some .string) {ob : Option Nat} {cap nn : Nat} {xs : List Value} {s : List B8} {w : World} (hA : (own ob cap e 1 nn xs).A w) (hm : nn + s.length ≤ 1000000000) :
    ∃ ob' cap' w', (Builtin.append_ #[t, u] ty #[slO ob nn cap, .string (txt s)]).run P w = .ok (slO ob' (nn + s.length) cap') w' ∧ (own ob' cap' e 1 (nn + s.length) (xs ++ s.map U8)).A w' ∧ Keeps ob.toList w w' ∧
      (∀ b ∈ ob'.toList, b ∈ ob.toList ∨ w.heap.size ≤ b) ∧ (nn + s.length = 0 ∨ ob'.isSome = true) := by
  obtain ⟨ii, z', hi, hz, hsz, hb, hzs⟩ := T.inf
  have hsl : (txt s).size = s.length := txt_size s
  have hlen : (xs ++ s.map U8).length = (nn + s.length) * 1 := by rw [List.length_append, hA.1, List.length_map]; omega
  have hmx : nn + s.length ≤ maxLen := by simp only [maxLen]; omega
  have h63 : ((nn + s.length : Nat) : Int) ≤ 9223372036854775807 := by omega
  have h1 : ∀ v ∈ s.map U8, v.oneCell' = true := by
    intro v hv
    obtain ⟨c, -, rfl⟩ := List.mem_map.1 hv
    rfl
  have hfc : ∀ w, (Builtin.firstCells 1 s.length (.string (txt s))).run P w = .ok (s.map U8).toArray w := fun w => by
    have := Go.Lib.run_firstCells_string (P := P) w 1 (txt s)
    rw [hsl, strCells_txt] at this; exact this
  have grown : ∀ (olds : List Value) (old : Nat), olds = xs → old < nn + s.length →
      (own (some w.heap.size) (grownCap w (nn + s.length) old e) e 1 (nn + s.length) (xs ++ s.map U8)).A
        (w.drew.alloc (.cells (olds.toArray ++ (s.map U8).toArray ++ Builtin.zeroCells z'.cells (grownCap w (nn + s.length) old e - (nn + s.length))) e)) ∧
      Keeps ob.toList w (w.drew.alloc (.cells (olds.toArray ++ (s.map U8).toArray ++ Builtin.zeroCells z'.cells (grownCap w (nn + s.length) old e - (nn + s.length))) e)) := by
    rintro olds old rfl ho
    have hge := grownCap_ge w (nn + s.length) old e
    have hcm : grownCap w (nn + s.length) old e ≤ maxLen := grownCap_le_maxLen w (nn + s.length) old e hmx
    refine ⟨⟨hlen, hge, hcm, (Builtin.zeroCells z'.cells (grownCap w (nn + s.length) old e - (nn + s.length))).toList, ?_, ?_⟩, (Keeps.drew _ w _ (Nat.le_succ _)).trans (Keeps.alloc _ w.drew _)⟩
    · refine ⟨(0, 0), ?_, .inl rfl⟩
      have := heap_alloc_same w.drew (.cells (olds.toArray ++ (s.map U8).toArray ++ Builtin.zeroCells z'.cells (grownCap w (nn + s.length) old e - (nn + s.length))) e)
      have hs : w.drew.heap.size = w.heap.size := rfl
      rw [hs] at this
      rw [this]
      congr 2
      apply Array.toList_inj.1
      simp
    · have hzc : (Builtin.zeroCells z'.cells (grownCap w (nn + s.length) old e - (nn + s.length))).size = (grownCap w (nn + s.length) old e - (nn + s.length)) * 1 := by rw [size_zeroCells, hzs]
      have hzc' : (Builtin.zeroCells z'.cells (grownCap w (nn + s.length) old e - (nn + s.length))).toList.length = (grownCap w (nn + s.length) old e - (nn + s.length)) * 1 := hzc
      rw [List.length_append, hlen, hzc']
      omega
  have nx : ∀ (c : Nat), c < nn + s.length → Builtin.nextslicecap (nn + s.length) c * ii.bytes ≤ 281474976710656 := fun c hc => growslice_fits (by omega) (by rw [hb]; omega)
  cases ob with
  | none =>
    obtain ⟨hx0, hn0, hc0⟩ := hA
    subst hn0; subst hc0
    have hxs : xs = [] := List.eq_nil_of_length_eq_zero (by simpa using hx0)
    subst hxs
    by_cases hm0 : s.length = 0
    · have : s = [] := List.length_eq_zero_iff.1 hm0
      subst this
      refine ⟨none, 0, w, ?_, ⟨by simp, by simp⟩, Keeps.refl _ _, by simp, .inl rfl⟩
      have hf := hfc w
      simp at hf
      simp [Builtin.append_, run_underlying T.ut, run_underlying hu, sizeOf, typeInfo, hi, hsz, Builtin.lenOf, slO, hsl, hf]
    · obtain ⟨g1, g2⟩ := grown [] 0 rfl (by omega)
      refine ⟨some w.heap.size, _, _, ?_, g1, g2, by simp, .inr rfl⟩
      have hn : ¬ (0 + s.length ≤ 0) := by omega
      have h48' : ¬ (281474976710656 < Builtin.nextslicecap (0 + s.length) 0 * ii.bytes) := by have := nx 0 (by omega); omega
      have h63' : ¬ (9223372036854775807 < (s.length : Int)) := by omega
      have hf := hfc w.drew
      simp only [Nat.zero_add] at h48' hn ⊢
      have hn0 : ¬ s = [] := fun h => hm0 (by rw [h]; rfl)
      simp [Builtin.append_, run_underlying T.ut, run_underlying hu, sizeOf, typeInfo, zeroValue, hi, hz, hsz, Builtin.lenOf, hsl, h63', h48', Question.forced, hf, newRow, grownCap, slO, hn0, Builtin.firstCells]
      congr 3
      apply Array.ext'
      simp [txt, List.take_of_length_le]
      exact fun a _ => rfl
  | some b =>
    obtain ⟨hx0, hnc, hcm, rest, ⟨f, hg, hfz⟩, hgl⟩ := hA
    rw [Nat.mul_one] at hx0 hgl hfz
    by_cases hroom : nn + s.length ≤ cap
    · have hst := run_storeCells_atF (P := P) b nn e f (s.map U8) 0 (xs ++ rest).toArray w (hfz.imp id (fun h => by rw [List.size_toArray, hgl]; exact h)) hg (by rw [List.size_toArray, hgl, List.length_map]; omega) h1
      simp only [Nat.add_zero, List.length_map] at hst
      refine ⟨some b, cap, w.setRow b ((xs ++ rest).toArray.toList.take nn ++ s.map U8 ++ (xs ++ rest).toArray.toList.drop (nn + s.length)).toArray, ?_, ⟨hlen, hroom, hcm, (xs ++ rest).drop (nn + s.length), ?_, ?_⟩, Keeps.setRow, by simp, .inr rfl⟩
      · have hf := hfc w
        simp [Builtin.append_, run_underlying T.ut, run_underlying hu, sizeOf, typeInfo, hi, hsz, Builtin.lenOf, hsl, hroom, hf, Addr.add_lit, hst, slO]
      · refine ⟨f, ?_, by rw [Nat.mul_one]; exact hfz⟩
        rw [setRow_heap w b _ _ e _ hg]
        congr 3
        simp [← hx0]
      · rw [List.length_append, hlen, List.length_drop, hgl]
        omega
    · have holds : ∀ j v, xs[j]? = some v → w.drew.cell? ((⟨b, 0, none⟩ : Addr).add j) = some v := fun j v hj => by
        have hlt : j < xs.length := (List.getElem?_eq_some_iff.1 hj).1
        rw [add_none]
        show w.cell? _ = _
        simp only [World.cell?, hg]
        simp [List.getElem?_append, hlt, (List.getElem?_eq_some_iff.1 hj).2]
      obtain ⟨g1, g2⟩ := grown xs cap rfl (by omega)
      refine ⟨some w.heap.size, _, _, ?_, g1, g2, by simp, .inr rfl⟩
      have hn : ¬ (nn + s.length ≤ cap) := hroom
      have h63' : ¬ (9223372036854775807 < ((nn : Int) + (s.length : Int))) := by omega
      have h48' : ¬ (281474976710656 < Builtin.nextslicecap (nn + s.length) cap * ii.bytes) := by have := nx cap (by omega); omega
      have hf := hfc w.drew
      have hfo := run_firstCells_some (P := P) w.drew 1 nn ⟨b, 0, none⟩ nn cap xs (by omega) holds
      simp [Builtin.append_, run_underlying T.ut, run_underlying hu, sizeOf, typeInfo, zeroValue, hi, hz, hsz, Builtin.lenOf, hsl, hn, h63', h48', Question.forced, hf, hfo, newRow, grownCap, slO]
      congr 2
      apply Array.ext'
      simp
/-- 'append(b, s...)', a text behind bytes of one's own. -/
theorem RL.appendS {e : TypeId} {ob : Option Nat} {cap nn : Nat} {xs : List Value} {s : List B8} {B : List It} {vx : Value} (T : ElemT P t e 1 1) (hu : P.underlying u = some .string)
    (ho : nth L i = some ⟨some d, .call ⟨.builtin .append, #[x, y], #[t, u]⟩, ty, pos, af, g⟩) (hw : wants L E ⟨some d, .call ⟨.builtin .append, #[x, y], #[t, u]⟩, ty, pos, af, g⟩ = true) (hN : Nat.blt d N.n = true) (hi : ef.contains i = true) (hb : bk.contains i = true)
    (hx : E.ev x = some vx) (hy : E.ev y = some (.string (txt s))) (hp : Pick H [PK.own ob cap e 1 nn xs] B) (hv : vx = slO ob nn cap) (hm : nn + s.length ≤ 1000000000)
    (h : ∀ ob' cap', (nn + s.length = 0 ∨ ob'.isSome = true) → RL P L ef bk tq Q l N ((d, slO ob' (nn + s.length) cap') :: E) w0 S I (PK.own ob' cap' e 1 (nn + s.length) (xs ++ s.map U8) :: B)) :
    RL P L ef bk tq Q (.cons i l) N E w0 S I H := by
  subst hv
  refine RL.eff ho hw hi rfl hN (fun a w ha hC => ?_)
  have hA : (PK.own ob cap e 1 nn xs).A w := hC.s.h _ (hp.memA _ (by simp))
  obtain ⟨ob', cap', w', r1, r2, r3, r4, r5⟩ := run_appendS (ty := ty) T hu hA hm
  unfold does
  rw [exec_append (ha.ev hx) (ha.ev hy) r1]
  have hs' : Sat [] [PK.own ob' cap' e 1 (nn + s.length) (xs ++ s.map U8)] w' := ⟨by simp, by simpa using r2, by cases ob' <;> simp [PK.own], by simp⟩
  have hk : Keeps (bss [PK.own ob cap e 1 nn xs]) w w' := by simpa [PK.own] using r3
  have := hC.call (C := []) hp .nil hk hs' (by simpa [PK.own] using r4) (by simp)
  exact ⟨I, _, this, fun _ h => h, fun hbk => (by rw [hb] at hbk; cases hbk), h ob' cap' r5⟩
/-- unsafe.SliceData of bytes of one's own. -/
theorem RL.sliceData {e : TypeId} {ats : Array TypeId} {b cap nn : Nat} {xs : List Value} (ho : nth L i = some ⟨some d, .call ⟨.builtin .unsafeSliceData, #[x], ats⟩, ty, pos, af, g⟩) (hw : wants L E ⟨some d, .call ⟨.builtin .unsafeSliceData, #[x], ats⟩, ty, pos, af, g⟩ = true) (hN : Nat.blt d N.n = true)
    (hx : E.ev x = some (slO (some b) nn cap)) (hm : PK.own (some b) cap e 1 nn xs ∈ H) (h0 : 0 < nn) (h : RL P L ef bk tq Q l N ((d, .pointer (some ⟨b, 0, none⟩)) :: E) w0 S I H) (ht : tq.l.contains i = false := by rfl) : RL P L ef bk tq Q (.cons i l) N E w0 S I H :=
  RL.val ho hw rfl hN (fun a w ha hC => by
    obtain ⟨-, hA, -⟩ := hC.s.h _ hm
    have hx' : a.eval x = .slice (some ⟨b, 0, none⟩) nn cap := ha.ev hx
    simp only [BigFrame.execOp_builtin, BigFrame.builtin_unsafeSliceData, List.map_toArray, List.map_cons, List.map_nil, hx']
    rw [Sem.run_bind, Go.Lib.run_unsafeSliceData_row w ats ty ⟨b, 0, none⟩ nn cap (by omega)]; rfl) h rfl ht
/-- unsafe.String of bytes of one's own: they are given away. -/
theorem RL.unsafeStr {e pt it : TypeId} {b cap nn : Nat} {bs : List B8} {B : List It} (hp : P.underlying pt = some (.pointer e)) (hc : P.cellsOf e = 1)
    (ho : nth L i = some ⟨some d, .call ⟨.builtin .unsafeString, #[x, y], #[pt, it]⟩, ty, pos, af, g⟩) (hw : wants L E ⟨some d, .call ⟨.builtin .unsafeString, #[x, y], #[pt, it]⟩, ty, pos, af, g⟩ = true) (hN : Nat.blt d N.n = true) (hi : ef.contains i = true) (hb : bk.contains i = true)
    (hx : E.ev x = some (.pointer (some ⟨b, 0, none⟩))) (hy : E.ev y = some (.int .i64 (nn : Int))) (hpk : Pick H [PK.own (some b) cap e 1 nn (bs.map U8)] B) (hn : bs.length = nn) (h0 : 0 < nn) (hm : nn ≤ 1000000000)
    (h : RL P L ef bk tq Q l N ((d, .string (txt bs)) :: E) w0 S I B) : RL P L ef bk tq Q (.cons i l) N E w0 S I H := by
  subst hn
  refine RL.eff ho hw hi rfl hN (fun a w ha hC => ?_)
  have hA : (PK.own (some b) cap e 1 bs.length (bs.map U8)).A w := hC.s.h _ (hpk.memA _ (by simp))
  obtain ⟨hx0, hnc, hcm, rest, ⟨f, hg, hfz⟩, hgl⟩ := hA
  have hsh : w.shape? b = some (e, (bs.map U8 ++ rest).length) := by simp [World.shape?, hg]
  have hcell : ∀ j v, (bs.map UInt8.ofBitVec)[j]? = some v → w.cell? ((⟨b, 0, none⟩ : Addr).add j) = some (.int .u8 v.toNat) := fun j v hj => by
    rw [List.getElem?_map] at hj
    cases hbj : bs[j]? with
    | none => rw [hbj] at hj; cases hj
    | some c =>
      rw [hbj] at hj
      rw [add_none]
      simp only [World.cell?, hg, Nat.zero_add]
      have hlt : j < bs.length := (List.getElem?_eq_some_iff.1 hbj).1
      simp [List.getElem?_append, hlt, (List.getElem?_eq_some_iff.1 hbj).2]
      rw [← Option.some.inj hj]; rfl
  have hr := Go.Lib.run_unsafeString_row w pt it ty e hp hc b _ hsh (bs.map UInt8.ofBitVec) (by intro h; rw [List.map_eq_nil_iff] at h; rw [h] at h0; cases h0) (by rw [List.length_map, hgl]; omega) (by rw [List.length_map]; omega) hcell
  unfold does
  simp only [BigFrame.execOp_builtin, BigFrame.builtin_unsafeString, List.map_toArray, List.map_cons, List.map_nil, ha.ev hx, ha.ev hy]
  rw [List.length_map] at hr
  rw [Sem.run_bind, hr]
  have hk : Keeps (bss [PK.own (some b) cap e 1 bs.length (bs.map U8)]) w (w.freeze ⟨b, 0, none⟩ bs.length) := by
    unfold World.freeze
    split
    · exact Keeps.refl _ _
    · refine ⟨rfl, rfl, rfl, by simp, fun c _ hcn => ?_, Nat.le_refl _⟩
      simp only [Array.getElem?_modify]
      rw [if_neg]
      rintro rfl
      exact hcn (by simp [PK.own])
  have := hC.call (C := []) (I' := []) (H' := []) hpk .nil hk ⟨by simp, by simp, by simp, by simp⟩ (by simp) (by simp)
  exact ⟨I, _, this, fun _ h => h, fun hbk => (by rw [hb] at hbk; cases hbk), h⟩
/-- A call of a function of the library that is given by an entry, in whatever world the same. -/
theorem RL.ext1 {f : FuncId} {v r : Value} {xs : Array Operand} {ats : Array TypeId} (hrun : ∀ w, (callFunc f #[v]).run P w = .ok (.value r) w)
    (ho : nth L i = some ⟨some d, .call ⟨.value (.func f), xs, ats⟩, ty, pos, af, g⟩) (hw : wants L E ⟨some d, .call ⟨.value (.func f), xs, ats⟩, ty, pos, af, g⟩ = true)
    (hN : Nat.blt d N.n = true) (hx : evs E xs.toList = some [v]) (h : RL P L ef bk tq Q l N ((d, r) :: E) w0 S I H) (hq : tq.l.contains i = false := by rfl) : RL P L ef bk tq Q (.cons i l) N E w0 S I H :=
  RL.val ho hw rfl hN (fun a w ha _ => by
    have hargs : (#[] ++ xs.map a.eval ++ #[]) = #[v] := by
      have := ha.evs hx
      apply Array.toList_inj.1
      simpa using this
    rw [execOp_call_go, hargs, hrun]) h rfl hq
end
end Go.PK
