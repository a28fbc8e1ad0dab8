import Derived.Test.YthndhipjfdgdfaaGreatDoorPD
import Derived.DeepKeys3
import Derived.ScopeJumps
set_option linter.unusedVariables false
set_option linter.unusedSimpArgs false
/-
  PK, part Q: the entry that a range over a map is at.
-/
namespace Go.PK

section
variable {P : Program} {L : List Oper} {ef bk : List Nat} {tq : Tq} {Q : Exit → Act → World → Prop} {N : Fm} {E : Env} {w0 : World} {S : List Nat} {I H : List It} {i : Nat} {l : Sq}
variable {d : Nat} {x y z : Operand} {ty t yt : TypeId} {pos : String} {af : Array Edge} {g : Option (Nat × Bool)} {v : Value} {k k' : IntKind} {m n : Int}

/-! ### Things that are put together -/

theorem bss_app (a b : List It) : bss (a ++ b) = bss a ++ bss b := List.flatMap_append
/-- Things as one thing. -/
def allI (l : List It) : It where
  bs := bss l
  A w := ∀ x ∈ l, x.A w
  fr w w' h hA x hx := x.fr w w' (fun b hb => h b (mem_bss.2 ⟨x, hx, hb⟩)) (hA x hx)
  lt w hA b hb := by
    obtain ⟨x, hx, hb⟩ := mem_bss.1 hb
    exact x.lt w (hA x hx) b hb
theorem bss_all (l B : List It) : bss (allI l :: B) = bss (l ++ B) := by rw [bss_app, bss_cons]; rfl
theorem Cls.unpack {l B : List It} {w : World} (h : Cls w0 S I (allI l :: B) w) : Cls w0 S I (l ++ B) w := by
  obtain ⟨h1, h2, h3⟩ := h
  rw [bss_all] at h3
  refine ⟨h1, ⟨h2.i, fun y hy => ?_, by rw [← bss_all]; exact h2.nd, by rw [← bss_all]; exact h2.dj⟩, h3⟩
  rcases List.mem_append.1 hy with hy | hy
  · exact h2.h _ (List.Mem.head _) y hy
  · exact h2.h y (by simp [hy])
theorem Cls.pack {l B : List It} {w : World} (h : Cls w0 S I (l ++ B) w) : Cls w0 S I (allI l :: B) w := by
  obtain ⟨h1, h2, h3⟩ := h
  rw [← bss_all] at h3
  refine ⟨h1, ⟨h2.i, fun y hy => ?_, by rw [bss_all]; exact h2.nd, by rw [bss_all]; exact h2.dj⟩, h3⟩
  rcases List.mem_cons.1 hy with rfl | hy
  · exact fun y hy => h2.h y (List.mem_append_left _ hy)
  · exact h2.h y (List.mem_append_right _ hy)
theorem bss_perm {a b : List It} (h : a.Perm b) : (bss a).Perm (bss b) := h.flatMap_right _
theorem Cls.perm {H' : List It} {w : World} (hp : H.Perm H') (h : Cls w0 S I H w) : Cls w0 S I H' w := by
  have hb := bss_perm hp
  exact ⟨h.k, ⟨h.s.i, fun y hy => h.s.h y (hp.mem_iff.2 hy), hb.nodup_iff.1 h.s.nd, fun b hi hh => h.s.dj b hi (hb.mem_iff.2 hh)⟩, fun b hh => h.own b (hb.mem_iff.2 hh)⟩
theorem RQ.pack {l B : List It} (h : RQ Q N E w0 S I (allI l :: B)) : RQ Q N E w0 S I (l ++ B) := fun a w ha hw => h a w ha hw.pack
end
end Go.PK

/-
  PK, part R: a map that is nil, gone over; sorting.
-/
namespace Go.PK
section
variable {P : Program} {L : List Oper} {ef bk : List Nat} {tq : Tq} {Q : Exit → Act → World → Prop} {N : Fm} {E : Env} {w0 : World} {S : List Nat} {I H : List It} {i : Nat} {l : Sq}
variable {d : Nat} {x y z : Operand} {v : Value} {ty t yt : TypeId} {pos : String} {af : Array Edge} {g : Option (Nat × Bool)}
end
end Go.PK

/-
  PK, part U: a slice grown ahead of what is to come.
-/
namespace Go.PK
section
variable {P : Program} {L : List Oper} {ef bk : List Nat} {tq : Tq} {Q : Exit → Act → World → Prop} {N : Fm} {E : Env} {w0 : World} {S : List Nat} {I H : List It} {i : Nat} {l : Sq}
variable {d : Nat} {x y z : Operand} {ty t yt : TypeId} {pos : String} {af : Array Edge} {g : Option (Nat × Bool)} {k : IntKind} {m n o : Int}
end
end Go.PK

/-
  PK, part V: what holds between two statements, of things that are not known ahead.
-/
namespace Go.PK
section
variable {P : Program} {Q : Exit → Act → World → Prop} {N : Fm} {E : Env} {w0 : World} {S : List Nat} {I H : List It}
def MidG {γ : Type} (N : Fm) (p : γ → Prop) (E : γ → Env) (w0 : World) (S : List Nat) (I H : γ → List It) : Exit → Act → World → Prop := fun e a w => e = .normal ∧ ∃ g, p g ∧ Ag N a (E g) ∧ Cls w0 S (I g) (H g) w
theorem CW.cutG {γ : Type} {c y : Code} (p : γ → Prop) (E' : γ → Env) (I' H' : γ → List It) (h1 : CW P c (MidG N p E' w0 S I' H') N E w0 S I H) (h2 : ∀ g, p g → CW P y Q N (E' g) w0 S (I' g) (H' g)) : CW P c (Exit.then (fun a w => y.wpIn (FnR N.ro) 0 P Q a w) Q) N E w0 S I H := fun a w ha hw =>
  wpIn_mono (h1 a w ha hw) (fun e a' w' ⟨he, g, hp, ha', hw'⟩ => by subst he; exact h2 g hp a' w' ha' hw')
theorem CW.cutN {γ : Type} {c : Code} (p : γ → Prop) (E' : γ → Env) (I' H' : γ → List It) (h1 : CW P c (MidG N p E' w0 S I' H') N E w0 S I H) (h2 : ∀ g, p g → NQ Q N (E' g) w0 S (I' g) (H' g)) : CW P c Q N E w0 S I H := fun a w ha hw =>
  wpIn_mono (h1 a w ha hw) (fun e a' w' ⟨he, g, hp, ha', hw'⟩ => by subst he; exact h2 g hp a' w' ha' hw')
theorem NQ.midG {γ : Type} {p : γ → Prop} {E' : γ → Env} {I' H' : γ → List It} (g : γ) (hp : p g) (s : Sub E (E' g)) (hc : ∀ w, Cls w0 S I H w → Cls w0 S (I' g) (H' g) w) : NQ (MidG N p E' w0 S I' H') N E w0 S I H := fun _ _ ha hw => ⟨rfl, g, hp, ha.sub s, hc _ hw⟩
/-- The like, where the statement may return. -/
def MidR {γ : Type} (N : Fm) (p : γ → Prop) (E : γ → Env) (w0 : World) (S : List Nat) (I H : γ → List It) (Q : Exit → Act → World → Prop) : Exit → Act → World → Prop := Exit.then (fun a w => ∃ g, p g ∧ Ag N a (E g) ∧ Cls w0 S (I g) (H g) w) Q
theorem CW.cutR {γ : Type} {c y : Code} (p : γ → Prop) (E' : γ → Env) (I' H' : γ → List It) (h1 : CW P c (MidR N p E' w0 S I' H' Q) N E w0 S I H) (h2 : ∀ g, p g → CW P y Q N (E' g) w0 S (I' g) (H' g)) : CW P c (Exit.then (fun a w => y.wpIn (FnR N.ro) 0 P Q a w) Q) N E w0 S I H := fun a w ha hw =>
  wpIn_mono (h1 a w ha hw) (fun e a' w' h => by
    cases e with
    | normal => obtain ⟨g, hp, ha', hw'⟩ := h; exact h2 g hp a' w' ha' hw'
    | _ => exact h)
theorem NQ.midR {γ : Type} {p : γ → Prop} {E' : γ → Env} {I' H' : γ → List It} (g : γ) (hp : p g) (s : Sub E (E' g)) (hc : ∀ w, Cls w0 S I H w → Cls w0 S (I' g) (H' g) w) : NQ (MidR N p E' w0 S I' H' Q) N E w0 S I H := fun _ _ ha hw => ⟨g, hp, ha.sub s, hc _ hw⟩
theorem RQ.midR {γ : Type} {p : γ → Prop} {E' : γ → Env} {I' H' : γ → List It} (h : RQ Q N E w0 S I H) : RQ (MidR N p E' w0 S I' H' Q) N E w0 S I H := fun a w ha hw => h a w ha hw
variable {L : List Oper} {ef bk : List Nat} {tq : Tq} {i : Nat} {l : Sq} {d : Nat} {x : Operand} {ty t : TypeId} {pos : String} {af : Array Edge} {g : Option (Nat × Bool)}
/-- How many a map holds. -/
theorem RL.lenM {kt et : TypeId} {good : Value → Prop} {r n : Nat} {c : List (Value × Value)} (hu : ∀ w, (underlying t).run P w = .ok (.map kt et) w) (ho : nth L i = some ⟨some d, .call ⟨.builtin .len, #[x], #[t]⟩, ty, pos, af, g⟩)
    (hw : wants L E ⟨some d, .call ⟨.builtin .len, #[x], #[t]⟩, ty, pos, af, g⟩ = true) (hN : Nat.blt d N.n = true) (hx : E.ev x = some (.map (some r))) (hm : MapAt I H r good c) (hn : c.length = n)
    (h : RL P L ef bk tq Q l N ((d, .int .i64 (n : Int)) :: E) w0 S I H) (ht : tq.l.contains i = false := by rfl) : RL P L ef bk tq Q (.cons i l) N E w0 S I H :=
  RL.val ho hw rfl hN (fun a w ha hC => by
    obtain ⟨es, clock, h1, h2, -⟩ := hm w hC.s
    have hgo : (getObj r).run P w = .ok (.map es clock) w := by simp [getObj, Sem.run, h1]
    have hs : es.size = n := by rw [← hn, ← h2]; simp [kvs]
    simp only [BigFrame.execOp_builtin, BigFrame.builtin_len, List.map_toArray, List.map_cons, List.map_nil, ha.ev hx]
    simp [Builtin.len_, goInt, hu, hgo, hs]) h rfl ht
end
end Go.PK

/-
  PK: functions that hold what they captured.
-/
namespace Go.PK
section
variable {P : Program} {L : List Oper} {ef bk : List Nat} {tq : Tq} {Q : Exit → Act → World → Prop} {N : Fm} {E : Env} {w0 : World} {S : List Nat} {I H : List It} {i : Nat} {l : Sq}
variable {d : Nat} {y : Operand} {ty : TypeId} {pos : String} {af : Array Edge} {g : Option (Nat × Bool)}
theorem RL.makeFunc {fn : Fn} {xs ys : Array Operand} {vs cs : List Value} (ho : nth L i = some ⟨some d, .makeFunc fn xs ys, ty, pos, af, g⟩) (hw : wants L E ⟨some d, .makeFunc fn xs ys, ty, pos, af, g⟩ = true) (hN : Nat.blt d N.n = true)
    (hx : evs E xs.toList = some vs) (hy : evs E ys.toList = some cs) (h : RL P L ef bk tq Q l N ((d, .func fn vs.toArray cs.toArray) :: E) w0 S I H) : RL P L ef bk tq Q (.cons i l) N E w0 S I H :=
  RL.pval ho hw rfl hN (fun a w ha => by
    have h1 : xs.map a.eval = vs.toArray := by
      apply Array.toList_inj.1; simpa using ha.evs hx
    have h2 : ys.map a.eval = cs.toArray := by
      apply Array.toList_inj.1; simpa using ha.evs hy
    show Sem.run P (do pure (Next.value (← Instr.makeFunc fn (xs.map a.eval) (ys.map a.eval)))) w = _
    rw [h1, h2]
    simp [Instr.makeFunc]) h
end
end Go.PK

/-
  PK, part W: flat structs as keys of a map.
-/
namespace Go.PK
end Go.PK

/-
  PK, part X: a scope with one label, and jumps to it.
-/
namespace Go.PK
section
variable {P : Program} {Q : Exit → Act → World → Prop} {K J : Act → World → Prop} {N : Fm} {id l : Nat} {E : Env} {w0 : World} {S : List Nat} {I H : List It}
def GQ (Q : Exit → Act → World → Prop) (l : Nat) (N : Fm) (E : Env) (w0 : World) (S : List Nat) (I H : List It) : Prop := ∀ a w, Ag N a E → Cls w0 S I H w → Q (.goto l) a w
theorem GQ.seq (h : GQ Q l N E w0 S I H) : GQ (Exit.then K Q) l N E w0 S I H := h
theorem GQ.block (h : GQ Q l N E w0 S I H) : GQ (Exit.inBlock id Q) l N E w0 S I H := h
def JQ {γ : Type} (N : Fm) (p : γ → Prop) (E : γ → Env) (w0 : World) (S : List Nat) (I H : γ → List It) : Act → World → Prop := fun a w => ∃ g, p g ∧ Ag N a (E g) ∧ Cls w0 S (I g) (H g) w
theorem GQ.at {γ : Type} {p : γ → Prop} {E' : γ → Env} {I' H' : γ → List It} (g : γ) (hp : p g) (s : Sub E (E' g)) (hc : ∀ w, Cls w0 S I H w → Cls w0 S (I' g) (H' g) w) : GQ (Exit.jump l (JQ N p E' w0 S I' H') Q) l N E w0 S I H := fun _ _ ha hw => ⟨rfl, g, hp, ha.sub s, hc _ hw⟩
end
end Go.PK

/-
  PK, part Y: what a call leaves to be read was made in it, and may be left to be read by one's own caller.
-/
namespace Go.PK
section
variable {P : Program} {L : List Oper} {ef bk : List Nat} {tq : Tq} {Q : Exit → Act → World → Prop} {N : Fm} {E : Env} {w0 : World} {S : List Nat} {I H : List It} {i : Nat} {l : Sq}
variable {d : Nat} {ty : TypeId} {pos : String} {af : Array Edge} {g : Option (Nat × Bool)} {v : Value}
end
end Go.PK
