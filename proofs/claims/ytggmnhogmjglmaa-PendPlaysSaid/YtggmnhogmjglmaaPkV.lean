/-
  PK, part V: what holds between two statements, of things that are not known ahead.
-/
import Derived.Test.YtggmnhogmjglmaaPkQ
namespace Go.PK
section
variable {P : Program} {Q : Exit → Act → World → Prop} {N : Nat} {E : Env} {w0 : World} {S : List Nat} {I H : List It}
def MidG {γ : Type} (N : Nat) (p : γ → Prop) (E : γ → Env) (w0 : World) (S : List Nat) (I H : γ → List It) : Exit → Act → World → Prop := fun e a w => e = .normal ∧ ∃ g, p g ∧ Ag N a (E g) ∧ Cls w0 S (I g) (H g) w
theorem CW.cutG {γ : Type} {c y : Code} (p : γ → Prop) (E' : γ → Env) (I' H' : γ → List It) (h1 : CW P c (MidG N p E' w0 S I' H') N E w0 S I H) (h2 : ∀ g, p g → CW P y Q N (E' g) w0 S (I' g) (H' g)) : CW P c (Exit.then (fun a w => y.wp P Q a w) Q) N E w0 S I H := fun a w ha hw =>
  wp_mono (h1 a w ha hw) (fun e a' w' ⟨he, g, hp, ha', hw'⟩ => by subst he; exact h2 g hp a' w' ha' hw')
theorem NQ.midG {γ : Type} {p : γ → Prop} {E' : γ → Env} {I' H' : γ → List It} (g : γ) (hp : p g) (s : Sub E (E' g)) (hc : ∀ w, Cls w0 S I H w → Cls w0 S (I' g) (H' g) w) : NQ (MidG N p E' w0 S I' H') N E w0 S I H := fun _ _ ha hw => ⟨rfl, g, hp, ha.sub s, hc _ hw⟩
variable {L : List Oper} {ef bk : List Nat} {tq : Tq} {i : Nat} {l : Sq} {d : Nat} {x : Operand} {ty t : TypeId} {pos : String} {af : Array Edge} {g : Option (Nat × Bool)}
/-- How many a map holds. -/
theorem RL.lenM {kt et : TypeId} {good : Value → Prop} {r n : Nat} {c : List (Value × Value)} (hu : ∀ w, (underlying t).run P w = .ok (.map kt et) w) (ho : nth L i = some ⟨some d, .call ⟨.builtin .len, #[x], #[t]⟩, ty, pos, af, g⟩)
    (hw : wants L E ⟨some d, .call ⟨.builtin .len, #[x], #[t]⟩, ty, pos, af, g⟩ = true) (hN : Nat.blt d N = true) (hx : E.ev x = some (.map (some r))) (hm : MapAt I H r good c) (hn : c.length = n)
    (h : RL P L ef bk tq Q l N ((d, .int .i64 (n : Int)) :: E) w0 S I H) (ht : tq.l.contains i = false := by rfl) : RL P L ef bk tq Q (.cons i l) N E w0 S I H :=
  RL.val ho hw rfl hN (fun a w ha hC => by
    obtain ⟨es, clock, h1, h2, -⟩ := hm w hC.s
    have hgo : (getObj r).run P w = .ok (.map es clock) w := by simp [getObj, Sem.run, h1]
    have hs : es.size = n := by rw [← hn, ← h2]; simp [kvs]
    simp only [BigFrame.execOp_builtin, BigFrame.builtin_len, List.map_toArray, List.map_cons, List.map_nil, ha.ev hx]
    simp [Builtin.len_, goInt, hu, hgo, hs]) h rfl ht
end
end Go.PK
