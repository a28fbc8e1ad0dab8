/-
  PK, part O: bytes of a text, one's own.
-/
import Derived.Test.YtkkfdoippibfkaaPkN
namespace Go.PK

section
variable {P : Program} {L : List Oper} {ef bk : List Nat} {tq : Tq} {Q : Exit → Act → World → Prop} {N : Nat} {E : Env} {w0 : World} {S : List Nat} {I H : List It} {i : Nat} {l : Sq}
variable {d : Nat} {x y z : Operand} {ty t yt : TypeId} {pos : String} {af : Array Edge} {g : Option (Nat × Bool)} {v : Value} {k k' : IntKind} {m n : Int}

theorem run_strBytes {e : TypeId} (hs : ∀ w, (underlying t).run P w = .ok .string w) (hd : ∀ w, (underlying yt).run P w = .ok (.slice e) w) (he : ∀ w, (underlying e).run P w = .ok (.int .u8) w) (bs : List B8) (hb : bs.length ≤ 1000000000) (w : World) :
    ∃ cap w', (convert t yt (.string (txt bs))).run P w = .ok (.slice (some ⟨w.heap.size, 0, none⟩) bs.length cap) w' ∧ Grow w w' ∧ (own (some w.heap.size) cap e 1 bs.length (bs.map U8)).A w' := by
  have hsz := txt_size bs
  have hge := grownCap_ge w bs.length 0 e
  have hcm : grownCap w bs.length 0 e ≤ maxLen := grownCap_le_maxLen w bs.length 0 e (by unfold maxLen; omega)
  let arr : Array Value := (txt bs).data.map (fun b => Value.int .u8 (b.toNat : Int)) ++ Array.replicate (grownCap w bs.length 0 e - bs.length) (.int .u8 0)
  have harr : arr = (bs.map U8 ++ List.replicate (grownCap w bs.length 0 e - bs.length) (Value.int .u8 0)).toArray := by
    apply Array.toList_inj.1
    simp only [arr, txt, Array.toList_append, Array.toList_map, List.map_map, Array.toList_replicate]
    congr 1
  have hal : arr.size = grownCap w bs.length 0 e := by rw [harr]; simp; omega
  have hh : (w.drew.alloc (.cells arr e)).heap[w.heap.size]? = some (.cells arr e (0, 0)) := heap_alloc_same w.drew _
  have hm := run_mark (P := P) hh
  have hrun : (convert t yt (.string (txt bs))).run P w = .ok (.slice (some ⟨w.heap.size, 0, none⟩) bs.length (grownCap w bs.length 0 e)) ((w.drew.alloc (.cells arr e)).freeze ⟨w.heap.size, arr.size, none⟩ 1) := by
    simp only [convert, Sem.run_bind, hs, hd, he, Result.andThen_ok]
    simp only [Conv.stringToBytes, hsz]
    simp only [arr, grownCap] at hm
    simp [Question.forced, newRow, grownCap, hm, arr]
  refine ⟨_, _, hrun, ⟨by simp [World.freeze]; rfl, by simp [World.freeze], by simp [World.freeze]; rfl, by simp [World.freeze], fun c hc _ => ?_, by simp only [World.freeze, Nat.one_ne_zero, if_false]; exact Nat.le_succ _⟩, ?_⟩
  · have hne : ¬ w.heap.size = c := by omega
    have h2 := heap_alloc_lt w.drew (.cells arr e) (b := c) hc
    simp only [World.freeze, Nat.one_ne_zero, if_false]
    rw [Array.getElem?_modify, if_neg hne]
    exact h2
  · refine ⟨by simp, hge, hcm, List.replicate (grownCap w bs.length 0 e - bs.length) (Value.int .u8 0), ⟨(arr.size, arr.size + 1), ?_, .inr (by rw [Nat.mul_one, hal]; exact Nat.le_refl _)⟩, by rw [← List.size_toArray, ← harr, hal, Nat.mul_one]⟩
    rw [← harr]
    simp only [World.freeze, Nat.one_ne_zero, if_false]
    rw [Array.getElem?_modify, if_pos rfl, hh]
    simp

/-- '[]byte(s)'. -/
theorem RL.strBytes {e : TypeId} {bs : List B8} (hs : ∀ w, (underlying t).run P w = .ok .string w) (hd : ∀ w, (underlying yt).run P w = .ok (.slice e) w) (he : ∀ w, (underlying e).run P w = .ok (.int .u8) w) (hb : bs.length ≤ 1000000000)
    (ho : nth L i = some ⟨some d, .convert t yt x, ty, pos, af, g⟩) (hw : wants L E ⟨some d, .convert t yt x, ty, pos, af, g⟩ = true) (hN : Nat.blt d N = true) (hi : ef.contains i = true)
    (hx : E.ev x = some (.string (txt bs))) (h : ∀ b cap, RL P L ef bk tq Q l N ((d, .slice (some ⟨b, 0, none⟩) bs.length cap) :: E) w0 S I (PK.own (some b) cap e 1 bs.length (bs.map U8) :: H)) : RL P L ef bk tq Q (.cons i l) N E w0 S I H := by
  refine RL.eff ho hw hi rfl hN (fun a w ha hC => ?_)
  obtain ⟨cap, w', h1, h2, h3⟩ := run_strBytes hs hd he bs hb w
  have hr : (execOp a.eval ⟨some d, .convert t yt x, ty, pos, af, g⟩).run P w = .ok (.value (.slice (some ⟨w.heap.size, 0, none⟩) bs.length cap)) w' := by
    simp [execOp, ha.ev hx, h1]
  unfold does
  rw [hr]
  exact ⟨I, _, hC.more h2 h3 (by simp [PK.own]) (by simp [PK.own]), fun _ h => h, fun _ _ h => h.less, h _ _⟩

theorem txt_extract (l : List B8) (lo hi : Nat) : (txt l).extract lo hi = txt ((l.drop lo).take (hi - lo)) := by
  have h : ((txt l).extract lo hi).data = (txt ((l.drop lo).take (hi - lo))).data := by
    rw [ByteArray.data_extract]
    apply Array.toList_inj.1
    simp [txt, List.extract, List.map_take, List.map_drop]
  cases h1 : (txt l).extract lo hi
  cases h2 : txt ((l.drop lo).take (hi - lo))
  rw [h1, h2] at h
  exact congrArg ByteArray.mk h

theorem RL.lenTxt {s : List B8} (hu : ∀ w, (underlying t).run P w = .ok .string w) (ho : nth L i = some ⟨some d, .call ⟨.builtin .len, #[x], #[t]⟩, ty, pos, af, g⟩) (hw : wants L E ⟨some d, .call ⟨.builtin .len, #[x], #[t]⟩, ty, pos, af, g⟩ = true) (hN : Nat.blt d N = true)
    (hx : E.ev x = some (.string (txt s))) (h : RL P L ef bk tq Q l N ((d, .int .i64 (s.length : Int)) :: E) w0 S I H) : RL P L ef bk tq Q (.cons i l) N E w0 S I H :=
  RL.lenStr hu ho hw hN hx (by rw [txt_size]; exact h)

/-- 's[lo:hi]' of a text. -/
theorem RL.sliceTxt {s : List B8} {lo hi : Nat} {ol oh : Option Operand} (hu : ∀ w, (underlying t).run P w = .ok .string w) (ho : nth L i = some ⟨some d, .slice t x ol oh none, ty, pos, af, g⟩) (hw : wants L E ⟨some d, .slice t x ol oh none, ty, pos, af, g⟩ = true) (hN : Nat.blt d N = true)
    (hx : E.ev x = some (.string (txt s))) (hl : bnd E ol 0 = some (lo : Int)) (hh : bnd E oh s.length = some (hi : Int)) (h1 : lo ≤ hi) (h2 : hi ≤ s.length)
    (h : RL P L ef bk tq Q l N ((d, .string (txt ((s.drop lo).take (hi - lo)))) :: E) w0 S I H) : RL P L ef bk tq Q (.cons i l) N E w0 S I H :=
  RL.pval ho hw rfl hN (fun a w ha => by
    have q1 := run_bnd (P := P) ha hh h2 .sliceAlen w
    have q2 := run_bnd (P := P) ha hl h1 .sliceB w
    have hsb : (Instr.sliceBounds false s.length s.length (ol.map a.eval) (oh.map a.eval) none).run P w = .ok (lo, hi, s.length) w := by
      unfold Instr.sliceBounds
      cases oh with
      | none => cases ol with
        | none => simp at q1 q2 ⊢; exact ⟨q2, q1⟩
        | some o => simp at q1 q2 ⊢; subst q1; simp [q2]
      | some o' => cases ol with
        | none => simp at q1 q2 ⊢; subst q2; simp [q1]
        | some o => simp at q1 q2 ⊢; simp [q1, q2]
    show Sem.run P (do pure (Next.value (← Instr.sliceAt t (a.eval x) (ol.map a.eval) (oh.map a.eval) none))) w = _
    rw [ha.ev hx]
    simp [Instr.sliceAt, Instr.slice, hu, txt_size, hsb, txt_extract]) h
end
end Go.PK
