import Derived.Test.YthndhipjfdgdfaaGreatDoorKA
import Derived.Test.YthndhipjfdgdfaaGreatDoorG0b
import Derived.Test.YthndhipjfdgdfaaGreatDoorGX
import Derived.Lib.Strings
set_option linter.unusedVariables false
set_option linter.unusedSimpArgs false
namespace Go.Proofs.YthndhipjfdgdfaaGreatDoor
open Go.PK Go.RowKit
/-! ### strings.ReplaceAll, TrimSuffix, Split (its own) -/
def subst1 {α : Type} [DecidableEq α] (c d : α) (s : List α) : List α := s.map fun x => if x = c then d else x
theorem subst1_no {α : Type} [DecidableEq α] {c d : α} {s : List α} (h : c ∉ s) : subst1 c d s = s := by
  have : ∀ x ∈ s, (if x = c then d else x) = x := fun x hx => if_neg (fun (e : x = c) => h (e ▸ hx))
  rw [subst1, List.map_congr_left this]; simp
theorem repK_eq (c d : UInt8) : ∀ (k : Nat) (s : List UInt8), s.count c = k → Go.Lib.replaceK [c] [d] k s = subst1 c d s
  | 0, s, h => by rw [Go.Lib.replaceK, subst1_no (List.count_eq_zero.1 h)]
  | k + 1, s, h => by
    have hm : c ∈ s := by
      rcases Classical.em (c ∈ s) with hm | hm
      · exact hm
      · rw [List.count_eq_zero.2 hm] at h; omega
    obtain ⟨i, hi⟩ : ∃ i : Nat, Go.Lib.indexByte s c = i := by
      have hge := Go.Lib.indexByte_ge s c
      have hne : Go.Lib.indexByte s c ≠ -1 := fun e => by
        obtain ⟨j, hj, rfl⟩ := List.mem_iff_getElem.1 hm
        exact Go.Lib.indexByte_none e j (List.getElem?_eq_getElem hj)
      exact ⟨(Go.Lib.indexByte s c).toNat, by omega⟩
    obtain ⟨h1, h2⟩ := Go.Lib.indexByte_some hi
    have hlt : i < s.length := (List.getElem?_eq_some_iff.1 h1).1
    rw [Go.Lib.replaceK_hit _ _ _ _ i (by rw [Go.Lib.index_one]; exact hi)]
    have e : s = s.take i ++ c :: s.drop (i + 1) := by
      conv => lhs; rw [← List.take_append_drop i s]
      rw [List.drop_eq_getElem_cons hlt, (List.getElem?_eq_some_iff.1 h1).2]
    have hc : c ∉ s.take i := fun hx => by
      obtain ⟨j, hj, e2⟩ := List.mem_iff_getElem.1 hx
      have hj' : j < i := by simp at hj; omega
      refine h2 j hj' ?_
      rw [List.getElem?_eq_getElem (by omega)]
      rw [List.getElem_take] at e2; rw [e2]
    have hk : (s.drop (i + 1)).count c = k := by
      rw [e, List.count_append, List.count_eq_zero.2 hc] at h
      simp at h; omega
    have ih := repK_eq c d k _ hk
    have e3 : subst1 c d s = subst1 c d (s.take i) ++ d :: subst1 c d (s.drop (i + 1)) := by
      conv => lhs; rw [e]
      rw [subst1, List.map_append, List.map_cons, if_pos rfl]; rfl
    rw [e3, subst1_no hc, ← ih]
    simp
theorem subst1_map {c d : B8} (s : Tx) : subst1 (UInt8.ofBitVec c) (UInt8.ofBitVec d) (s.map UInt8.ofBitVec) = (subst1 c d s).map UInt8.ofBitVec := by
  rw [subst1, subst1, List.map_map, List.map_map]
  refine List.map_congr_left fun x _ => ?_
  show (if UInt8.ofBitVec x = UInt8.ofBitVec c then _ else _) = UInt8.ofBitVec (if x = c then d else x)
  by_cases h : x = c
  · rw [if_pos h, if_pos (by rw [h])]
  · rw [if_neg h, if_neg (fun e => h (UInt8.ofBitVec.inj e))]
theorem txt_mk {d : List UInt8} {s : Tx} (h : d = s.map UInt8.ofBitVec) : (⟨d.toArray⟩ : ByteArray) = txt s := by
  rw [h]; rfl
theorem rep_any (s : Tx) (hs : s.length ≤ 1000000) : Spc Tryz.prog 21 #[strV s, strV [10#8], strV [32#8]] [gvI] [] (Is (strV (subst1 10#8 32#8 s))) := Spc.ofB fun w hw => by
  have hsz := txt_size s
  obtain ⟨-, -, m, hm⟩ := hw.i gvI (by simp)
  have hcnt : Lib.countB (txt s) (txt [10#8]) ≤ s.length := by
    show Lib.count (txt s).data.toList (txt [10#8]).data.toList ≤ _
    rw [txt_data, txt_data, List.map_cons, List.map_nil, Lib.count_one]
    have := List.count_le_length (a := UInt8.ofBitVec 10#8) (l := s.map UInt8.ofBitVec)
    rwa [List.length_map] at this
  refine (Any.strings_ReplaceAll Tryz.lRep Tryz.xRep (txt s) (txt [10#8]) (txt [32#8]) m w (by omega) hm (by rw [txt_size]; simp) (by rw [txt_size [32#8]]; simp; omega)).mono ?_
  rintro e w' ⟨rfl, hb⟩
  refine ⟨?_, hb⟩
  congr 2
  refine txt_mk ?_
  rw [txt_data, txt_data, txt_data, ← subst1_map]
  show Lib.replaceAll _ [UInt8.ofBitVec 10#8] [UInt8.ofBitVec 32#8] = _
  rw [Lib.replaceAll, Lib.replace, if_neg (by decide), Lib.replaceNum, if_pos (.inl (by decide)), Lib.count_one]
  exact repK_eq _ _ _ _ rfl
theorem suf_any (s : Tx) (hs : s.length ≤ 1000000000) : Spc Tryz.prog 19 #[strV (s ++ [10#8]), strV [10#8]] [] [] (Is (strV s)) := Spc.ofB fun w _ =>
  (Any.strings_TrimSuffix Tryz.lSuf (txt (s ++ [10#8])) (txt [10#8]) w (by rw [txt_size]; simp; omega)).mono (by
    rintro e w' ⟨rfl, rfl⟩
    refine ⟨?_, Below.refl _ _⟩
    congr 2
    refine txt_mk ?_
    rw [txt_data, txt_data, List.map_append, Lib.trimSuffix, if_pos]
    · simp
    · rw [Lib.hasSuffix, List.isSuffixOf_iff_suffix]
      exact List.suffix_append _ _)
theorem splitO_any (c : B8) (s : Tx) (hs : s.length < 4294967281) : Spc Tryz.prog 18 #[strV s, strV [c]] [gvI] [] (fun v I' H' => ∃ b, v = .slice (some ⟨b, 0, none⟩) (splL c s).length (splL c s).length ∧ I' = [] ∧ H' = [own (some b) (splL c s).length 9 1 (splL c s).length ((splL c s).map strV)]) := fun w hw => by
  have hml : (splL c s).length ≤ maxLen := by
    have h1 := splL_len (c := c) s
    have h2 : s.count c ≤ s.length := List.count_le_length
    simp only [maxLen]; omega
  have hsz := txt_size s
  obtain ⟨-, -, m, hm⟩ := hw.i gvI (by simp)
  have hcnt : Lib.countB (txt s) (txt [c]) + 1 = (splL c s).length := by
    show Lib.count (txt s).data.toList (txt [c]).data.toList + 1 = _
    rw [txt_data, txt_data, List.map_cons, List.map_nil, Lib.count_one, ← splL_len, splL_map (fun a b h => UInt8.ofBitVec.inj h)]
    simp
  have hdat : (Lib.splitB (txt [c]) 0 (Lib.countB (txt s) (txt [c])) (txt s)).map Value.string = (splL c s).map fun a => Value.string (txt a) := by
    have h1 := Lib.splitB_data (txt [c]) 0 (Lib.countB (txt s) (txt [c])) (txt s)
    rw [txt_data, txt_data, List.map_cons, List.map_nil, splK_eq _ _ _ (by
      show _ = Lib.count (txt s).data.toList (txt [c]).data.toList
      rw [txt_data, txt_data, List.map_cons, List.map_nil, Lib.count_one]), splL_map (fun a b h => UInt8.ofBitVec.inj h)] at h1
    have h2 : ∀ (l : List ByteArray) (r : List Tx), l.map (·.data.toList) = r.map (List.map UInt8.ofBitVec) → l.map Value.string = r.map fun a => Value.string (txt a) := by
      intro l
      induction l with
      | nil => intro r h; cases r with
        | nil => rfl
        | cons a r => cases h
      | cons x l ih => intro r h; cases r with
        | nil => cases h
        | cons a r =>
          rw [List.map_cons, List.map_cons, List.cons.injEq] at h
          rw [List.map_cons, List.map_cons, ih r h.2]
          congr 1
          congr 1
          cases x with
          | mk d => simp only [txt]; rw [← h.1]
    exact h2 _ _ h1
  refine (Any.strings_Split { Tryz.lSplit with } Tryz.lSplit.i9 (txt s) (txt [c]) m w (by omega) hm (by rw [txt_size]; simp)).mono ?_
  rintro e w' ⟨rfl, rfl⟩
  rw [hcnt, hdat]
  refine ⟨_, _, _, rfl, ⟨w.heap.size, rfl, rfl, rfl⟩, ?_, ⟨by simp, ?_, ?_, by simp⟩, ?_, by simp⟩
  · have hb := (Below.refl w.heap.size w).alloc (Nat.le_refl _) (.cells ((splL c s).map fun a => Value.string (txt a)).toArray (Tryz.lSplit_ren.t 9))
    exact ⟨hb.os, hb.tape, hb.output, hb.size, fun b hb' _ => hb.block b hb', Nat.le_refl 0⟩
  · intro x hx
    rw [List.mem_singleton.1 hx]
    refine ⟨by simp, Nat.le_refl _, hml, [], ⟨(0, 0), ?_, .inl rfl⟩, by simp⟩
    show (w.heap.push _)[w.heap.size]? = _
    simp only [Array.getElem?_push_size, List.append_nil]
    rfl
  · simp [own]
  · intro b hb
    simp [own] at hb
    exact .inr (by omega)
end Go.Proofs.YthndhipjfdgdfaaGreatDoor
