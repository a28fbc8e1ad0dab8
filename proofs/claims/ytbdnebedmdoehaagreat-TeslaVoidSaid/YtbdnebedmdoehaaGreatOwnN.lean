import Derived.Test.YtbdnebedmdoehaaGreatBase0
namespace Go.Proofs.YtbdnebedmdoehaaGreat
open Go.PK
/-- A function ends with bytes of its own. -/
theorem RQ.ownB {fn : Func} {w0 : World} {S : List Nat} {N : Nat} {E : Env} {I H : List It} {l : List B8} {ob : Option Nat} {cap n : Nat} {xs : List Value} {t : Tmp} (hf : fn.results = #[.tmp t]) (hv : E.get t = some (slO ob n cap)) (hs : Split H [own ob cap 5 1 n xs] []) (hn : n = l.length) (hx : xs = bytes l) (ho : n = 0 ∨ ob.isSome = true) :
    RQ (FnPost Tryz.prog fn (OwnB l) w0 S) N E w0 S I H := by
  subst hn
  subst hx
  exact RQ.post (res1 hf hv) hs ⟨ob, cap, rfl, rfl, rfl, ho⟩

/-- Bytes of one's own, so many. -/
def OwnN (n : Nat) (l : List B8) : Value → List It → List It → Prop := fun v I' H' => ∃ ob cap, v = slO ob n cap ∧ I' = [] ∧ H' = [own ob cap 5 1 n (bytes l)] ∧ (n = 0 ∨ ob.isSome = true)
theorem OwnB.n {P : Program} {f : FuncId} {args : Array Value} {I H : List It} {l : List B8} {n : Nat} (hn : l.length = n) (h : Spc P f args I H (OwnB l)) : Spc P f args I H (OwnN n l) := by subst hn; exact h
end Go.Proofs.YtbdnebedmdoehaaGreat
