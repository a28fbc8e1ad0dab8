/-
  PK, part P: values of flat types (numbers, truths, texts, and structs and arrays of such) compared, whole.
-/
import Derived.Test.YtkkfdoippibfkaaPkO
import Derived.DeepKeys
namespace Go.PK

/-- What a cell is. -/
inductive EK where | bool | int (k : IntKind) | str
def EK.fit : EK → Value → Prop
  | .bool, .bool _ => True
  | .int q, .int q' n => q' = q ∧ wfk q n
  | .str, .string s => s.size ≤ maxLen
  | _, _ => False
def Fits : List EK → List Value → Prop
  | [], [] => True
  | k :: ks, c :: cs => k.fit c ∧ Fits ks cs
  | _, _ => False
theorem Fits.length : ∀ {ks : List EK} {cs : List Value}, Fits ks cs → ks.length = cs.length
  | [], [], _ => rfl
  | _ :: _, _ :: _, h => by simp [Fits.length h.2]
  | [], _ :: _, h => h.elim
  | _ :: _, [], h => h.elim
theorem Fits.append : ∀ {a b : List EK} {c d : List Value}, Fits a c → Fits b d → Fits (a ++ b) (c ++ d)
  | [], _, [], _, _, h => h
  | _ :: _, _, _ :: _, _, h, h2 => ⟨h.1, h.2.append h2⟩
  | [], _, _ :: _, _, h, _ => h.elim
  | _ :: _, _, [], _, h, _ => h.elim
theorem Fits.split : ∀ {a b : List EK} {cs : List Value}, Fits (a ++ b) cs → Fits a (cs.take a.length) ∧ Fits b (cs.drop a.length)
  | [], _, _, h => ⟨trivial, h⟩
  | _ :: _, _, [], h => h.elim
  | _ :: _, _, _ :: _, h => ⟨⟨h.1, h.2.split.1⟩, h.2.split.2⟩
theorem Fits.one {k : EK} {v : Value} (h : k.fit v) : Fits [k] [v] := ⟨h, trivial⟩
theorem Fits.cons {k : EK} {ks : List EK} {v : Value} {vs : List Value} (h : k.fit v) (hs : Fits ks vs) : Fits (k :: ks) (v :: vs) := ⟨h, hs⟩
theorem Fits.map {α : Type} {k : EK} {f : α → Value} (h : ∀ a, k.fit (f a)) : ∀ {n : Nat} {l : List α}, l.length = n → Fits (List.replicate n k) (l.map f)
  | 0, [], _ => trivial
  | n + 1, a :: l, hl => ⟨h a, Fits.map h (by simpa using hl)⟩
  | 0, _ :: _, hl => by simp at hl
  | n + 1, [], hl => by simp at hl
theorem Fits.u8s {n : Nat} {l : List B8} (hl : l.length = n) : Fits (List.replicate n (.int .u8)) (l.map U8) :=
  Fits.map (f := U8) (fun a => show EK.fit (.int .u8) (.int .u8 a.toNat) from ⟨rfl, by have := a.isLt; simp only [wfk, Lit.wf, IntKind.min, IntKind.max, IntKind.signed, IntKind.bits, Bool.and_eq_true, decide_eq_true_eq, Bool.false_eq_true, if_false]; omega⟩) hl

/-- A cell as a literal. -/
def litOf : Value → Lit
  | .bool b => .bool b
  | .int q n => .int q n
  | .string s => .string s.data.toList
  | _ => .bool false
theorem Fits.inj : ∀ {ks : List EK} {c d : List Value}, Fits ks c → Fits ks d → c.map litOf = d.map litOf → c = d
  | [], [], [], _, _, _ => rfl
  | k :: ks, x :: c, y :: d, h, g, e => by
    simp only [List.map_cons, List.cons.injEq] at e
    rw [Fits.inj h.2 g.2 e.2]
    obtain ⟨h, -⟩ := h
    obtain ⟨g, -⟩ := g
    congr 1
    have e := e.1
    cases k <;> cases x <;> simp only [EK.fit] at h <;> cases y <;> simp only [EK.fit] at g <;> simp only [litOf, Lit.bool.injEq, Lit.int.injEq, Lit.string.injEq] at e
    · exact congrArg _ e
    · obtain ⟨e1, e2⟩ := e
      rw [e1, e2]
    · rename_i s1 s2 _
      obtain ⟨⟨l1⟩⟩ := s1
      obtain ⟨⟨l2⟩⟩ := s2
      simp only at e
      rw [e]
  | [], _ :: _, _, h, _, _ => h.elim
  | [], _, _ :: _, _, h, _ => h.elim
  | _ :: _, [], _, h, _, _ => h.elim
  | _ :: _, _, [], _, h, _ => h.elim

/-- The cells of a flat type. -/
def shapeF (P : Program) (sh : TypeId → Option (List EK)) : Nat → List Field → Option (List EK)
  | _, [] => some []
  | off, f :: fs =>
    match sh f.type with
    | none => none
    | some ks => if f.offset = off ∧ ks.length = P.cellsOf f.type ∧ f.name ≠ "_" then (shapeF P sh (off + ks.length) fs).map (ks ++ ·) else none
def shape (P : Program) : Nat → TypeId → Option (List EK)
  | 0, _ => none
  | d + 1, t =>
    match P.underlying t with
    | some .bool => some [.bool]
    | some (.int q) => some [.int q]
    | some .string => some [.str]
    | some (.array n e) =>
      match shape P d e with
      | none => none
      | some ks => if ks.length = P.cellsOf e ∧ P.cellsOf t = n * P.cellsOf e then some (List.replicate n ks).flatten else none
    | some (.struct fs) =>
      match shapeF P (shape P d) 0 fs.toList with
      | none => none
      | some ks => if ks.length = P.cellsOf t then some ks else none
    | _ => none

theorem mapM_items {P : Program} {d : Nat} {e : TypeId} {ks : List EK} {c : Nat} (hc : ks.length = c) (ih : ∀ {cs : List Value}, Fits ks cs → P.keyLits d e cs = some (cs.map litOf)) : ∀ (n i : Nat) (cs : List Value), Fits (List.replicate n ks).flatten (cs.drop (i * c)) →
    ((List.range' i n).mapM fun j => P.keyLits d e ((cs.drop (j * c)).take c)).map List.flatten = some ((cs.drop (i * c)).map litOf)
  | 0, i, cs, h => by
    have := h.length
    simp only [List.replicate_zero, List.flatten_nil, List.length_nil] at this
    rw [List.length_eq_zero_iff.1 this.symm]
    simp
  | n + 1, i, cs, h => by
    rw [List.replicate_succ, List.flatten_cons] at h
    obtain ⟨h1, h2⟩ := h.split
    rw [List.drop_drop, hc, show i * c + c = (i + 1) * c by rw [Nat.add_mul]; omega] at h2
    have g := mapM_items hc ih n (i + 1) cs h2
    rw [hc] at h1
    rw [List.range'_succ, List.mapM_cons, ih h1]
    simp only [Option.map_eq_some_iff] at g
    obtain ⟨as, ha, g⟩ := g
    simp only [Option.bind_eq_bind, Option.bind_some, ha, Option.pure_def, Option.map_some, List.flatten_cons, g, ← List.map_append, Option.some.injEq]
    congr 1
    rw [show (i + 1) * c = i * c + c by rw [Nat.add_mul]; omega, ← List.drop_drop, List.take_append_drop]

theorem mapM_fields {P : Program} {d : Nat} (ih : ∀ {t : TypeId} {ks : List EK} {cs : List Value}, shape P d t = some ks → Fits ks cs → P.keyLits d t cs = some (cs.map litOf)) : ∀ (fs : List Field) (off : Nat) (ks : List EK) (cs : List Value), shapeF P (shape P d) off fs = some ks → Fits ks (cs.drop off) →
    (fs.mapM fun f => P.keyLits d f.type ((cs.drop f.offset).take (P.cellsOf f.type))).map List.flatten = some ((cs.drop off).map litOf) ∧ ∀ f ∈ fs, f.name ≠ "_"
  | [], off, ks, cs, hs, h => by
    simp only [shapeF, Option.some.injEq] at hs
    subst hs
    have := h.length
    simp only [List.length_nil] at this
    rw [List.length_eq_zero_iff.1 this.symm]
    simp
  | f :: fs, off, ks, cs, hs, h => by
    simp only [shapeF] at hs
    cases h1 : shape P d f.type with
    | none => simp [h1] at hs
    | some k1 =>
      simp only [h1] at hs
      split at hs
      · rename_i hq
        obtain ⟨ho, hc, hn⟩ := hq
        simp only [Option.map_eq_some_iff] at hs
        obtain ⟨k2, h2, rfl⟩ := hs
        obtain ⟨f1, f2⟩ := h.split
        rw [List.drop_drop] at f2
        obtain ⟨g, gn⟩ := mapM_fields ih fs _ k2 cs h2 f2
        refine ⟨?_, fun x hx => ?_⟩
        · rw [List.mapM_cons, ho, ← hc, ih h1 f1]
          simp only [Option.map_eq_some_iff] at g
          obtain ⟨as, ha, g⟩ := g
          simp only [Option.bind_eq_bind, Option.bind_some, ha, Option.pure_def, Option.map_some, List.flatten_cons, g, ← List.map_append, Option.some.injEq]
          congr 1
          rw [← List.drop_drop, List.take_append_drop]
        · rcases List.mem_cons.1 hx with rfl | hx
          · exact hn
          · exact gn x hx
      · simp at hs

theorem keyLits_fits {P : Program} : ∀ {d : Nat} {t : TypeId} {ks : List EK} {cs : List Value}, shape P d t = some ks → Fits ks cs → P.keyLits d t cs = some (cs.map litOf)
  | 0, _, _, _, h, _ => by simp [shape] at h
  | d + 1, t, ks, cs, h, hf => by
    unfold shape at h
    unfold Program.keyLits
    cases hu : P.underlying t with
    | none => simp [hu] at h
    | some kd =>
      have one : ∀ {k : EK}, Fits [k] cs → ∃ c, cs = [c] ∧ k.fit c := by
        intro k hk
        match cs, hk with
        | [c], hk => exact ⟨c, rfl, hk.1⟩
      cases kd
      case bool =>
        simp only [hu, Option.some.injEq] at h
        subst h
        obtain ⟨c, rfl, hc⟩ := one hf
        cases c <;> simp [EK.fit] at hc
        rfl
      case int q =>
        simp only [hu, Option.some.injEq] at h
        subst h
        obtain ⟨c, rfl, hc⟩ := one hf
        cases c <;> simp [EK.fit] at hc
        obtain ⟨rfl, hc⟩ := hc
        simp only [wfk] at hc
        simp [hc, litOf]
      case string =>
        simp only [hu, Option.some.injEq] at h
        subst h
        obtain ⟨c, rfl, hc⟩ := one hf
        cases c <;> simp [EK.fit] at hc
        simp [hc, litOf]
      case array n e =>
        simp only [hu] at h
        cases h1 : shape P d e with
        | none => simp [h1] at h
        | some k1 =>
          simp only [h1] at h
          split at h
          · rename_i hq
            simp only [Option.some.injEq] at h
            subst h
            have hl := hf.length
            rw [List.length_flatten, List.map_replicate, List.sum_replicate_nat, hq.1, ← hq.2] at hl
            simp only [← hl, if_true]
            rw [List.range_eq_range']
            have := mapM_items hq.1 (keyLits_fits h1) n 0 cs (by simpa using hf)
            simpa using this
          · simp at h
      case struct fs =>
        simp only [hu] at h
        cases h1 : shapeF P (shape P d) 0 fs.toList with
        | none => simp [h1] at h
        | some k1 =>
          simp only [h1] at h
          split at h
          · rename_i hq
            simp only [Option.some.injEq] at h
            subst h
            obtain ⟨g, gn⟩ := mapM_fields (fun {t ks cs} => keyLits_fits (d := d)) fs.toList 0 k1 cs h1 (by simpa using hf)
            have : (fs.all fun x => x.name != "_") = true := by
              rw [Array.all_eq_true_iff_forall_mem]
              intro f hf
              simpa using gn f (Array.mem_toList_iff.2 hf)
            simp only [← hf.length, hq, this, and_self, if_true]
            simpa using g
          · simp at h
      all_goals (simp [hu] at h; done)

/-- Whole values are the same where their cells are. -/
theorem run_equal_flat {P : Program} {t : TypeId} {ks : List EK} {m : Nat} (hm : m ≤ 10000) (hk : P.keyTypeAt m t = true) (hs : shape P m t = some ks) (hw : (match P.underlying t with | some (.array _ _) | some (.struct _) => true | _ => false) = true) (hcs : P.cellsOf t = ks.length)
    {c d : List Value} (hc : Fits ks c) (hd : Fits ks d) {r : Bool} (hr : r = true ↔ c = d) (w : World) : (Op.equal t (.agg c.toArray) (.agg d.toArray)).run P w = .ok r w := by
  have fm : ∀ {c : List Value}, Fits ks c → (Value.agg c.toArray).formed P t = true := by
    intro c hc
    have := hc.length
    simp only [Value.formed]
    split at hw <;> simp_all
  obtain ⟨r', h1, h2⟩ := run_equalIn_deep (10000 - m) m t hk w m m (.agg c.toArray) (.agg d.toArray) _ _ (fm hc) (fm hd) (by simpa [Value.cells] using keyLits_fits hs hc) (by simpa [Value.cells] using keyLits_fits hs hd)
  have : r' = r := by
    rw [Bool.eq_iff_iff, h2, hr]
    exact ⟨hc.inj hd, fun e => by rw [e]⟩
  rw [← this, ← h1]
  unfold Op.equal
  rw [show 10000 - m + m = Op.maxDepth by simp [Op.maxDepth]; omega]

section
variable {P : Program} {t : TypeId} {x y : Operand}
theorem eql_flat {ks : List EK} {m : Nat} (hm : m ≤ 10000) (hk : P.keyTypeAt m t = true) (hs : shape P m t = some ks) (hw : (match P.underlying t with | some (.array _ _) | some (.struct _) => true | _ => false) = true) (hcs : P.cellsOf t = ks.length) (hg : P.eqGuardType P.depth t = false)
    {c d : List Value} (hc : Fits ks c) (hd : Fits ks d) {r : Bool} (hr : r = true ↔ c = d) (w : World) : (do eqGuard .eql t x y (.agg c.toArray) (.agg d.toArray); binOp .eql t (.agg c.toArray) (.agg d.toArray) : Sem Value).run P w = .ok (.bool r) w := by
  simp [eqGuard, binOp, hg, run_equal_flat hm hk hs hw hcs hc hd hr]
theorem neq_flat {ks : List EK} {m : Nat} (hm : m ≤ 10000) (hk : P.keyTypeAt m t = true) (hs : shape P m t = some ks) (hw : (match P.underlying t with | some (.array _ _) | some (.struct _) => true | _ => false) = true) (hcs : P.cellsOf t = ks.length) (hg : P.eqGuardType P.depth t = false)
    {c d : List Value} (hc : Fits ks c) (hd : Fits ks d) {r : Bool} (hr : r = true ↔ c = d) (w : World) : (do eqGuard .neq t x y (.agg c.toArray) (.agg d.toArray); binOp .neq t (.agg c.toArray) (.agg d.toArray) : Sem Value).run P w = .ok (.bool (!r)) w := by
  simp [eqGuard, binOp, hg, run_equal_flat hm hk hs hw hcs hc hd hr]
end
theorem Src.celI {I H : List It} {b mm sz : Nat} {cs : List Value} {T : TypeId} (hm : PK.cel b cs T ∈ I) (hl : cs.length = mm * sz) : Src I H (some ⟨b, 0, none⟩) mm sz cs := fun w hw =>
  ⟨hl, fun h => (by cases h), fun a h j u hj => by cases h; rw [add_none, cell_of_cel (hw.i _ hm), Nat.zero_add]; exact hj⟩
/-- A part of a list of cells, read and written. -/
theorem seg_at {A B C : List Value} {o n : Nat} (ho : A.length = o) (hn : B.length = n) : ((A ++ (B ++ C)).drop o).take n = B := by
  subst ho; subst hn; simp
theorem seg_spl {A B B' C : List Value} {o : Nat} (ho : A.length = o) (hn : B'.length = B.length) : spl (A ++ (B ++ C)) o B' = A ++ (B' ++ C) := by
  subst ho
  rw [spl_eq _ _ _ (by simp; omega), List.take_left', List.append_assoc, hn, ← List.drop_drop, List.drop_left', List.drop_left']
  all_goals rfl
section
variable {P : Program} {L : List Oper} {ef bk : List Nat} {tq : Tq} {Q : Exit → Act → World → Prop} {N : Nat} {E : Env} {w0 : World} {S : List Nat} {I H : List It} {i : Nat} {l : Sq}
variable {d : Nat} {x y z : Operand} {ty t yt : TypeId} {pos : String} {af : Array Edge} {g : Option (Nat × Bool)} {v : Value} {k k' : IntKind} {m n : Int}
theorem RL.loadSeg {b off nn : Nat} {cs : List Value} {T : TypeId} (A B C : List Value) (hag : ∀ w, (isAgg t).run P w = .ok true w) (hs : ∀ w, (sizeOf t).run P w = .ok nn w) (ho : nth L i = some ⟨some d, .load t x, ty, pos, af, g⟩) (hw : wants L E ⟨some d, .load t x, ty, pos, af, g⟩ = true) (hN : Nat.blt d N = true)
    (hx : E.ev x = some (.pointer (some ⟨b, off, none⟩))) (hm : PK.cel b cs T ∈ H) (he : cs = A ++ (B ++ C)) (hA : A.length = off) (hB : B.length = nn) (h : RL P L ef bk tq Q l N ((d, .agg B.toArray) :: E) w0 S I H) (ht : tq.l.contains i = false := by rfl) : RL P L ef bk tq Q (.cons i l) N E w0 S I H :=
  RL.loadP hag hs ho hw hN hx hm (by rw [he, List.length_append, List.length_append]; omega) (by rw [he, seg_at hA hB]; exact h) ht
theorem RL.loadSegI {b off nn : Nat} {cs : List Value} {T : TypeId} (A B C : List Value) (hag : ∀ w, (isAgg t).run P w = .ok true w) (hs : ∀ w, (sizeOf t).run P w = .ok nn w) (ho : nth L i = some ⟨some d, .load t x, ty, pos, af, g⟩) (hw : wants L E ⟨some d, .load t x, ty, pos, af, g⟩ = true) (hN : Nat.blt d N = true)
    (hx : E.ev x = some (.pointer (some ⟨b, off, none⟩))) (hm : PK.cel b cs T ∈ I) (he : cs = A ++ (B ++ C)) (hA : A.length = off) (hB : B.length = nn) (h : RL P L ef bk tq Q l N ((d, .agg B.toArray) :: E) w0 S I H) (ht : tq.l.contains i = false := by rfl) : RL P L ef bk tq Q (.cons i l) N E w0 S I H :=
  RL.loadN hag (by rw [hB]; exact hs) ho hw hN hx (Rds.celI hm (fun j u hj => by
    subst hA; subst he
    rw [List.getElem?_append_right (by omega), Nat.add_sub_cancel_left, List.getElem?_append_left (List.getElem?_eq_some_iff.1 hj).1]; exact hj)) h ht
theorem RL.storeSeg {b off nn : Nat} {cs cs' vs : List Value} {T : TypeId} {H' : List It} (A B C : List Value) (hs : ∀ w, (sizeOf t).run P w = .ok nn w) (ho : nth L i = some ⟨none, .store t x y, ty, pos, af, g⟩) (hw : wants L E ⟨none, .store t x y, ty, pos, af, g⟩ = true)
    (hi : ef.contains i = true) (hb : bk.contains i = true) (hx : E.ev x = some (.pointer (some ⟨b, off, none⟩))) (hy : E.ev y = some v) (hc : v.cells = vs.toArray) (h1 : ones vs = true)
    (he : cs = A ++ (B ++ C)) (he' : A ++ (vs ++ C) = cs') (hA : A.length = off) (hB : B.length = nn) (hv : vs.length = nn) (hu : Upd H (PK.cel b cs T) (PK.cel b cs' T) H') (h : RL P L ef bk tq Q l N E w0 S I H') : RL P L ef bk tq Q (.cons i l) N E w0 S I H :=
  RL.storeX (by rw [he, seg_spl hA (by rw [hv, hB]), he']) (by rw [hv]; exact hs) ho hw hi hb hx hy hc h1 hu (by rw [he, List.length_append, List.length_append]; omega) h
end
theorem spl_app {L v : List Value} {k : Nat} : ∀ A : List Value, spl (A ++ L) (A.length + k) v = A ++ spl L k v
  | [] => by simp
  | a :: A => by
    have ih := spl_app (L := L) (v := v) (k := k) A
    rw [List.cons_append, List.length_cons, show A.length + 1 + k = A.length + k + 1 by omega, List.cons_append, ← ih]
    cases v <;> rfl
/-- One of equal pieces set. -/
theorem spl_flat {α : Type} {f : α → List Value} {n : Nat} (a : α) : ∀ {l : List α} (_ : ∀ a ∈ l, (f a).length = n) (_ : (f a).length = n) {q : Nat} (_ : q < l.length), spl (l.flatMap f) (q * n) (f a) = (l.set q a).flatMap f
  | [], _, _, q, h => by simp at h
  | b :: l, hl, ha, 0, _ => by
    have e : spl ([] ++ (f b ++ l.flatMap f)) 0 (f a) = [] ++ (f a ++ l.flatMap f) := seg_spl rfl (by rw [ha, hl b (by simp)])
    rw [Nat.zero_mul]
    simpa using e
  | b :: l, hl, ha, q + 1, h => by
    have ih := spl_flat a (l := l) (fun c hc => hl c (by simp [hc])) ha (q := q) (by simpa using h)
    have hb := hl b (by simp)
    rw [List.set_cons_succ, List.flatMap_cons, List.flatMap_cons, ← ih, ← spl_app, hb, Nat.add_mul, Nat.one_mul, Nat.add_comm n]
section
variable {P : Program} {L : List Oper} {ef bk : List Nat} {tq : Tq} {Q : Exit → Act → World → Prop} {N : Nat} {E : Env} {w0 : World} {S : List Nat} {I H : List It} {i : Nat} {l : Sq}
variable {d : Nat} {x y z : Operand} {ty t yt : TypeId} {pos : String} {af : Array Edge} {g : Option (Nat × Bool)}
theorem RL.fieldAddrG {p : Addr} {fo j : Nat} (hf : ∀ p w, (Instr.fieldAt t (.pointer (some p)) j).run P w = .ok (.pointer (some (p.add fo))) w) (ho : nth L i = some ⟨some d, .fieldAddr t x j, ty, pos, af, g⟩) (hw : wants L E ⟨some d, .fieldAddr t x j, ty, pos, af, g⟩ = true) (hN : Nat.blt d N = true)
    (hx : E.ev x = some (.pointer (some p))) (h : RL P L ef bk tq Q l N ((d, .pointer (some (p.add fo))) :: E) w0 S I H) : RL P L ef bk tq Q (.cons i l) N E w0 S I H :=
  RL.pval ho hw rfl hN (fun a w ha => by
    simp [execOp, ha.ev hx, hf]) h
/-- A load of what is known to stand there. -/
theorem RL.loadA {p : Addr} {nn : Nat} {vs : List Value} (hag : ∀ w, (isAgg t).run P w = .ok true w) (hs : ∀ w, (sizeOf t).run P w = .ok nn w) (ho : nth L i = some ⟨some d, .load t x, ty, pos, af, g⟩) (hw : wants L E ⟨some d, .load t x, ty, pos, af, g⟩ = true) (hN : Nat.blt d N = true)
    (hx : E.ev x = some (.pointer (some p))) (hr : Rds I H p vs) (hl : vs.length = nn) (h : RL P L ef bk tq Q l N ((d, .agg vs.toArray) :: E) w0 S I H) (ht : tq.l.contains i = false := by rfl) : RL P L ef bk tq Q (.cons i l) N E w0 S I H :=
  RL.loadN hag (by rw [hl]; exact hs) ho hw hN hx hr h ht
theorem RL.loadAT {p : Addr} {nn : Nat} {vs : List Value} (hag : ∀ w, (isAgg t).run P w = .ok true w) (hs : ∀ w, (sizeOf t).run P w = .ok nn w) (ho : nth L i = some ⟨some d, .load t x, ty, pos, af, g⟩) (hw : wants L E ⟨some d, .load t x, ty, pos, af, g⟩ = true) (hN : Nat.blt d N = true)
    (hx : E.ev x = some (.pointer (some p))) (hr : Rds tq.T [] p vs) (hl : vs.length = nn) (h : RL P L ef bk tq Q l N ((d, .agg vs.toArray) :: E) w0 S I H) : RL P L ef bk tq Q (.cons i l) N E w0 S I H :=
  RL.loadNT hag (by rw [hl]; exact hs) ho hw hN hx hr h
theorem RL.loadWT {b nn : Nat} {vs : List Value} {T : TypeId} (hag : ∀ w, (isAgg t).run P w = .ok true w) (hs : ∀ w, (sizeOf t).run P w = .ok nn w) (ho : nth L i = some ⟨some d, .load t x, ty, pos, af, g⟩) (hw : wants L E ⟨some d, .load t x, ty, pos, af, g⟩ = true) (hN : Nat.blt d N = true)
    (hx : E.ev x = some (.pointer (some ⟨b, 0, none⟩))) (hm : PK.cel b vs T ∈ tq.T) (hl : vs.length = nn) (h : RL P L ef bk tq Q l N ((d, .agg vs.toArray) :: E) w0 S I H) : RL P L ef bk tq Q (.cons i l) N E w0 S I H :=
  RL.loadNT hag (by rw [hl]; exact hs) ho hw hN hx (Rds.allI hm) h
end
/-- What is told is known, whatever else there is. -/
structure RdI (I : List It) (p : Addr) (v : Value) : Prop where
  h : ∀ H, Rd I H p v
structure RdsI (I : List It) (p : Addr) (vs : List Value) : Prop where
  h : ∀ H, Rds I H p vs
theorem RdI.rd {I H : List It} {p : Addr} {v : Value} (h : RdI I p v) : Rd I H p v := h.h H
theorem RdsI.rds {I H : List It} {p : Addr} {vs : List Value} (h : RdsI I p vs) : Rds I H p vs := h.h H
/-- A part laid into a struct. -/
theorem fill_seg {place : Nat → Option (Nat × Nat)} {cells vs r : List Value} {j off size : Nat} {v : Value} {rest : List (Nat × Value)} (A B C : List Value) (hp : place j = some (off, size)) (hv : v.cells.toList = vs) (hc : cells = A ++ (B ++ C)) (hA : A.length = off) (hB : B.length = size) (hs : vs.length = size)
    (h : fillL place (A ++ (vs ++ C)) rest = some r) : fillL place cells ((j, v) :: rest) = some r := by
  rw [fillL, hp]
  simp only [hv]
  rw [if_neg (by rw [hc, List.length_append, List.length_append]; simp; omega), hc, seg_spl hA (by rw [hs, hB])]
  exact h
theorem agg_cells (l : List Value) : (Value.agg l.toArray).cells.toList = l := by simp [Value.cells]
/-- So many cells that are told. -/
structure RdsN (I : List It) (p : Addr) (n : Nat) (vs : List Value) : Prop where
  h : ∀ H, Rds I H p vs
  len : vs.length = n
section
variable {P : Program} {L : List Oper} {ef bk : List Nat} {tq : Tq} {Q : Exit → Act → World → Prop} {N : Nat} {E : Env} {w0 : World} {S : List Nat} {I H : List It} {i : Nat} {l : Sq}
variable {d : Nat} {x y z : Operand} {ty t yt : TypeId} {pos : String} {af : Array Edge} {g : Option (Nat × Bool)}
theorem RL.loadM {p : Addr} {nn : Nat} {vs : List Value} (hag : ∀ w, (isAgg t).run P w = .ok true w) (hs : ∀ w, (sizeOf t).run P w = .ok nn w) (ho : nth L i = some ⟨some d, .load t x, ty, pos, af, g⟩) (hw : wants L E ⟨some d, .load t x, ty, pos, af, g⟩ = true) (hN : Nat.blt d N = true)
    (hx : E.ev x = some (.pointer (some p))) (hr : RdsN I p nn vs) (h : RL P L ef bk tq Q l N ((d, .agg vs.toArray) :: E) w0 S I H) (ht : tq.l.contains i = false := by rfl) : RL P L ef bk tq Q (.cons i l) N E w0 S I H :=
  RL.loadA hag hs ho hw hN hx (hr.h H) hr.len h ht
theorem RL.loadMT {p : Addr} {nn : Nat} {vs : List Value} (hag : ∀ w, (isAgg t).run P w = .ok true w) (hs : ∀ w, (sizeOf t).run P w = .ok nn w) (ho : nth L i = some ⟨some d, .load t x, ty, pos, af, g⟩) (hw : wants L E ⟨some d, .load t x, ty, pos, af, g⟩ = true) (hN : Nat.blt d N = true)
    (hx : E.ev x = some (.pointer (some p))) (hr : RdsN tq.T p nn vs) (h : RL P L ef bk tq Q l N ((d, .agg vs.toArray) :: E) w0 S I H) : RL P L ef bk tq Q (.cons i l) N E w0 S I H :=
  RL.loadAT hag hs ho hw hN hx (hr.h []) hr.len h
end
end Go.PK
