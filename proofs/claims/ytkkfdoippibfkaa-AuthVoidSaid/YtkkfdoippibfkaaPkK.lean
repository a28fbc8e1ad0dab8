/-
  PK, part K: arrays of bytes compared; a fact at a round's end; what is one's own told from here on.
-/
import Derived.Test.YtkkfdoippibfkaaPkJ
import Derived.ChangeKeysEq
namespace Go.PK

section
variable {P : Program} {L : List Oper} {ef bk : List Nat} {tq : Tq} {Q : Exit → Act → World → Prop} {N : Nat} {E : Env} {w0 : World} {S : List Nat} {I H : List It} {i : Nat} {l : Sq}
variable {d : Nat} {x y z : Operand} {ty t yt : TypeId} {pos : String} {af : Array Edge} {g : Option (Nat × Bool)} {v : Value} {k k' : IntKind} {m n : Int}

theorem run_eqItems8 {e : TypeId} (hag : ∀ w, (isAgg e).run P w = .ok false w) (hu : ∀ w, (underlying e).run P w = .ok (.int .u8) w) (dd : Nat) (l1 l2 : List B8) : ∀ (is : List Nat) (w : World), (∀ i ∈ is, i < l1.length ∧ i < l2.length) →
    (Op.eqItems (dd + 1) e 1 (l1.map U8).toArray (l2.map U8).toArray is).run P w = .ok (is.all fun i => l1[i]? == l2[i]?) w
  | [], w, _ => by simp [Op.eqItems]
  | i :: is, w, h => by
    obtain ⟨h1, h2⟩ := h i (by simp)
    have ih := run_eqItems8 hag hu dd l1 l2 is w (fun j hj => h j (by simp [hj]))
    have p1 : (Go.part e (l1.map U8).toArray (i * 1)).run P w = .ok (U8 l1[i]) w := by simp [Go.part, hag, h1]
    have p2 : (Go.part e (l2.map U8).toArray (i * 1)).run P w = .ok (U8 l2[i]) w := by simp [Go.part, hag, h2]
    have p3 : (Op.equalIn (dd + 1) e (U8 l1[i]) (U8 l2[i])).run P w = .ok (l1[i] == l2[i]) w := by
      have he : ((l1[i].toNat : Int) == (l2[i].toNat : Int)) = (l1[i] == l2[i]) := by
        rw [Bool.eq_iff_iff]
        simp only [beq_iff_eq]
        exact ⟨fun hh => BitVec.eq_of_toNat_eq (by omega), fun hh => by rw [hh]⟩
      rw [Op.equalIn.eq_2, ← he]
      unfold U8
      generalize (l1[i].toNat : Int) = p
      generalize (l2[i].toNat : Int) = q
      simp [hu]
    simp only [Op.eqItems, Sem.run_bind, p1, p2, p3, Result.andThen_ok, List.all_cons]
    by_cases he : l1[i] = l2[i]
    · simp [he, ih, h1, h2]
    · simp [he, h1, h2]

theorem equal_arr8 {e : TypeId} {len : Nat} {ii : TypeInfo} (hu : P.underlying t = some (.array len e)) (hi : P.info? e = some ii) (hc : P.cellsOf e = 1) (hag : ∀ w, (isAgg e).run P w = .ok false w) (hue : ∀ w, (underlying e).run P w = .ok (.int .u8) w)
    (l1 l2 : List B8) (h1 : l1.length = len) (h2 : l2.length = len) (w : World) : (Op.equal t (.agg (l1.map U8).toArray) (.agg (l2.map U8).toArray)).run P w = .ok (l1 == l2) w := by
  unfold Op.equal
  rw [show Op.maxDepth = 9999 + 1 from rfl, run_equalIn_array (P := P) w 9999 _ _ hu hi, hc, show 9999 = 9998 + 1 from rfl, run_eqItems8 hag hue 9998 l1 l2 _ w (fun i hi => by simp at hi; omega)]
  congr 1
  rw [Bool.eq_iff_iff]
  simp only [List.all_eq_true, List.mem_range, beq_iff_eq]
  constructor
  · intro h
    apply List.ext_getElem?
    intro i
    by_cases hi : i < len
    · exact h i hi
    · rw [List.getElem?_eq_none (by omega), List.getElem?_eq_none (by omega)]
  · rintro rfl i _; rfl

theorem eql_arr8 {e : TypeId} {len : Nat} {ii : TypeInfo} (hu : P.underlying t = some (.array len e)) (hi : P.info? e = some ii) (hc : P.cellsOf e = 1) (hag : ∀ w, (isAgg e).run P w = .ok false w) (hue : ∀ w, (underlying e).run P w = .ok (.int .u8) w) (hm : P.eqGuardType P.depth t = false)
    (l1 l2 : List B8) (h1 : l1.length = len) (h2 : l2.length = len) (w : World) : (do eqGuard .eql t x y (.agg (l1.map U8).toArray) (.agg (l2.map U8).toArray); binOp .eql t (.agg (l1.map U8).toArray) (.agg (l2.map U8).toArray) : Sem Value).run P w = .ok (.bool (l1 == l2)) w := by
  simp [eqGuard, binOp, hm, equal_arr8 hu hi hc hag hue l1 l2 h1 h2]
theorem neq_arr8 {e : TypeId} {len : Nat} {ii : TypeInfo} (hu : P.underlying t = some (.array len e)) (hi : P.info? e = some ii) (hc : P.cellsOf e = 1) (hag : ∀ w, (isAgg e).run P w = .ok false w) (hue : ∀ w, (underlying e).run P w = .ok (.int .u8) w) (hm : P.eqGuardType P.depth t = false)
    (l1 l2 : List B8) (h1 : l1.length = len) (h2 : l2.length = len) (w : World) : (do eqGuard .neq t x y (.agg (l1.map U8).toArray) (.agg (l2.map U8).toArray); binOp .neq t (.agg (l1.map U8).toArray) (.agg (l2.map U8).toArray) : Sem Value).run P w = .ok (.bool (!(l1 == l2))) w := by
  simp [eqGuard, binOp, hm, equal_arr8 hu hi hc hag hue l1 l2 h1 h2]

theorem NQ.fact {p : Prop} (hp : ∀ w, Cls w0 S I H w → p) (h : p → NQ Q N E w0 S I H) : NQ Q N E w0 S I H := fun a w ha hw => h (hp w hw) a w ha hw

/-- What is one's own is told from here on. -/
theorem CW.freeze {c : Code} {x : It} {B : List It} (hp : Pick H [x] B) (h : CW P c Q N E w0 S (x :: I) B) : CW P c Q N E w0 S I H := fun a w ha hw => h a w ha (hw.freeze hp)
end
end Go.PK
