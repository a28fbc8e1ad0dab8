/-
  PK, part M: one's own slices, made and added to without a word.
-/
import Derived.Test.YtkkfdoippibfkaaPkL
namespace Go.PK

theorem Upd.symm {H H' : List It} {x x' : It} (h : Upd H x x' H') : Upd H' x' x H := by
  induction h with
  | here => exact .here
  | there h ih => exact .there ih

theorem spl_set {v : Value} : ∀ {cs : List Value} {n : Nat}, n < cs.length → spl cs n [v] = cs.set n v
  | [], _, h => by simp at h
  | c :: cs, 0, _ => by cases cs <;> simp [spl]
  | c :: cs, n + 1, h => by simp only [spl, List.set_cons_succ]; rw [spl_set (by simpa using h)]
/-- A table of 'n' cells, one of them set. -/
theorem set_range {α : Type} {f f' : Nat → α} {n j : Nat} {v : α} (h : ∀ q, q ≠ j → f' q = f q) (hv : f' j = v) : ((List.range n).map f).set j v = (List.range n).map f' := by
  apply List.ext_getElem?
  intro q
  rw [List.getElem?_set]
  by_cases hq : j = q
  · subst hq
    by_cases hn : j < n
    · simp [hn, hv]
    · simp [hn]
  · simp only [hq, if_false, List.getElem?_map]
    by_cases hn : q < n
    · simp [hn, h q (Ne.symm hq)]
    · simp [hn]
theorem spl_range {f f' : Nat → Value} {n j : Nat} {v : Value} (hj : j < n) (h : ∀ q, q ≠ j → f' q = f q) (hv : f' j = v) : spl ((List.range n).map f) j [v] = (List.range n).map f' := by
  rw [spl_set (by simpa using hj), set_range h hv]

section
variable {P : Program} {L : List Oper} {ef bk : List Nat} {tq : Tq} {Q : Exit → Act → World → Prop} {N : Nat} {E : Env} {w0 : World} {S : List Nat} {I H : List It} {i : Nat} {l : Sq}
variable {d : Nat} {x y z : Operand} {ty t yt : TypeId} {pos : String} {af : Array Edge} {g : Option (Nat × Bool)} {v : Value} {k k' : IntKind} {m n : Int}

theorem RL.turn {u u' : It} {H' : List It} (hu : Upd H u u' H') (hb : u'.bs = u.bs) (hA : ∀ w, u.A w ↔ u'.A w) (h : RL P L ef bk tq Q l N E w0 S I H') : RL P L ef bk tq Q l N E w0 S I H := by
  have he : Cls w0 S I H' = Cls w0 S I H := funext fun w => propext ⟨fun h => h.conv hu.symm hb.symm (hA w).2, fun h => h.conv hu hb (hA w).1⟩
  intro hT a ha
  rw [← he]
  exact h hT a ha

theorem cel_own {b sz n : Nat} {cs : List Value} {T : TypeId} (hl : cs.length = n * sz) (hm : n ≤ maxLen) (w : World) (h : (cel b cs T).A w) : (own (some b) n T sz n cs).A w :=
  ⟨hl, Nat.le_refl _, hm, [], ⟨_, by rw [List.append_nil]; exact h, .inl rfl⟩, by rw [List.append_nil]; exact hl⟩

/-- A slice built, as one's own. -/
theorem RL.buildOwn {e : TypeId} {size len : Nat} {zs : List Value} {ps : Array (Nat × Operand)} {vs : List (Nat × Value)} {z : Value} (cs : List Value) (hu : ∀ w, (underlying t).run P w = .ok (.slice e) w) (hs : ∀ w, (sizeOf e).run P w = .ok size w)
    (hz : ∀ w, (zeroValue e).run P w = .ok z w) (hzc : z.cells = zs.toArray) (hsz : zs.length = size) (hpos : 0 < size) (hlen : len * size ≤ 16777216) (hcl : cs.length = len * size) (hml : len ≤ 16777216)
    (ho : nth L i = some ⟨some d, .buildSlice t len ps, ty, pos, af, g⟩) (hw : wants L E ⟨some d, .buildSlice t len ps, ty, pos, af, g⟩ = true) (hN : Nat.blt d N = true) (hi : ef.contains i = true)
    (hx : vparts E ps.toList = some vs) (hf : fillL (fun j => some (j * size, size)) (reps zs len) vs = some cs)
    (h : ∀ b, RL P L ef bk tq Q l N ((d, .slice (some ⟨b, 0, none⟩) len len) :: E) w0 S I (own (some b) len e size len cs :: H)) : RL P L ef bk tq Q (.cons i l) N E w0 S I H :=
  RL.make (x := fun b => own (some b) len e size len cs) (u := fun b => .slice (some ⟨b, 0, none⟩) len len) ho hw hi rfl hN (fun a w ha hC => by
    obtain ⟨w', h1, h2, h3⟩ := run_buildSlice cs hu hs hz hzc hsz hpos hlen (pos := pos) (ty := ty) (af := af) (g := g) (d := d) (w := w) ha hx hf
    exact ⟨w', h1, h2, cel_own hcl (by unfold maxLen; omega) w' h3, rfl⟩) h

theorem Src.ownS {b cap sz nn : Nat} {e : TypeId} {xs : List Value} (hm : PK.own (some b) cap e sz nn xs ∈ H) : Src I H (some ⟨b, 0, none⟩) nn sz xs := Src.own (ob := some b) hm

/-- Something added to one's own slice: found by program. -/
theorem RL.appendA {e : TypeId} {sz bytes : Nat} {ob : Option Nat} {cap nn mm c2 : Nat} {xs news : List Value} {p2 : Option Addr} {B : List It} {vx : Value} (T : ElemT P t e sz bytes)
    (ho : nth L i = some ⟨some d, .call ⟨.builtin .append, #[x, y], #[t, t]⟩, ty, pos, af, g⟩) (hw : wants L E ⟨some d, .call ⟨.builtin .append, #[x, y], #[t, t]⟩, ty, pos, af, g⟩ = true) (hN : Nat.blt d N = true) (hi : ef.contains i = true) (hb : bk.contains i = true)
    (hx : E.ev x = some vx) (hy : E.ev y = some (.slice p2 mm c2)) (hp : Pick H [PK.own ob cap e sz nn xs] B ∧ vx = slO ob nn cap) (hs : Src I H p2 mm sz news) (h1 : ∀ u ∈ news, u.oneCell' = true) (hm : nn + mm ≤ maxLen) (hby : (nn + mm) * bytes ≤ 140737488355328)
    (h : ∀ ob' cap', (nn + mm = 0 ∨ ob'.isSome = true) → RL P L ef bk tq Q l N ((d, slO ob' (nn + mm) cap') :: E) w0 S I (PK.own ob' cap' e sz (nn + mm) (xs ++ news) :: B)) :
    RL P L ef bk tq Q (.cons i l) N E w0 S I H := by
  obtain ⟨hp, rfl⟩ := hp
  exact RL.append T ho hw hN hi hb hx hy hs h1 hm hby hp h

/-- A quotient, written otherwise. -/
theorem RL.quoX {v' : Value} (ho : nth L i = some ⟨some d, .binOp .quo t x y yt, ty, pos, af, g⟩) (hw : wants L E ⟨some d, .binOp .quo t x y yt, ty, pos, af, g⟩ = true) (hN : Nat.blt d N = true)
    (hx : E.ev x = some (.int k m)) (hy : E.ev y = some (.int k n)) (hn : n ≠ 0) (hv : Value.int k (k.wrap (m.tdiv n)) = v') (h : RL P L ef bk tq Q l N ((d, v') :: E) w0 S I H) : RL P L ef bk tq Q (.cons i l) N E w0 S I H :=
  RL.quo ho hw hN hx hy hn (hv ▸ h)
theorem RL.remX {v' : Value} (ho : nth L i = some ⟨some d, .binOp .rem t x y yt, ty, pos, af, g⟩) (hw : wants L E ⟨some d, .binOp .rem t x y yt, ty, pos, af, g⟩ = true) (hN : Nat.blt d N = true)
    (hx : E.ev x = some (.int k m)) (hy : E.ev y = some (.int k n)) (hn : n ≠ 0) (hv : Value.int k (m.tmod n) = v') (h : RL P L ef bk tq Q l N ((d, v') :: E) w0 S I H) : RL P L ef bk tq Q (.cons i l) N E w0 S I H :=
  RL.rem ho hw hN hx hy hn (hv ▸ h)

/-- The like, told otherwise: so many, these cells. -/
theorem own_is {ob : Option Nat} {cap sz n n' : Nat} {e : TypeId} {xs xs' : List Value} (hn : n = n') (hx : xs = xs') : own ob cap e sz n xs = own ob cap e sz n' xs' := by rw [hn, hx]

/-- One's own slice is told from here on. -/
theorem CW.tell {c : Code} {ob : Option Nat} {cap sz nn : Nat} {e : TypeId} {xs : List Value} {B : List It} (hp : Pick H [PK.own ob cap e sz nn xs] B)
    (h : (S = [] → ∀ c ∈ (PK.sls (ob.map fun b => ⟨b, 0, none⟩) sz nn xs).bs, w0.heap.size ≤ c) → CW P c Q N E w0 S (PK.sls (ob.map fun b => ⟨b, 0, none⟩) sz nn xs :: I) B) : CW P c Q N E w0 S I H := by
  have hbs : ∀ c ∈ (PK.sls (ob.map fun b => ⟨b, 0, none⟩) sz nn xs).bs, c ∈ (PK.own ob cap e sz nn xs).bs := by
    intro c hc
    by_cases hn : nn = 0
    · simp [PK.sls, hn] at hc
    · cases ob <;> simp_all [PK.sls, PK.own]
  refine CW.fact (p := S = [] → ∀ c ∈ (PK.sls (ob.map fun b => ⟨b, 0, none⟩) sz nn xs).bs, w0.heap.size ≤ c) (fun w hC hS c hc => ?_) (fun hf => ?_)
  · have hm : c ∈ bss H := mem_bss.2 ⟨_, hp.memA _ (List.Mem.head _), hbs c hc⟩
    by_cases hlt : c < w0.heap.size
    · have := hC.own c hm hlt
      rw [hS] at this; cases this
    · omega
  · refine CW.freeze hp (CW.also _ (fun w hw => own_sls (hw.i _ (List.Mem.head _))) (fun c hc => mem_bss.2 ⟨_, List.Mem.head _, hbs c hc⟩) (CW.les (fun x hx => ?_) (Les.refl _) (h hf)))
    rcases List.mem_cons.1 hx with rfl | hx
    · exact List.Mem.head _
    · exact List.mem_cons_of_mem _ (List.mem_cons_of_mem _ hx)

theorem Lend.many {F J : List It} (h : ∀ x ∈ J, x ∈ I) : Lend I F J := by
  induction J with
  | nil => exact .nil
  | cons x J ih => exact .inI (h x (by simp)) (ih (fun y hy => h y (by simp [hy])))

/-- A part of what is told, as one takes it. -/
theorem Lend.subP {F J : List It} {p : Option Addr} {sz nn lo k cap : Nat} {xs : List Value} (hm : PK.sls p sz nn xs ∈ I) (hk : lo + k ≤ nn) (hc : nn ≤ cap) (h : Lend I F J) :
    Lend I F (PK.sls (if cap = lo then p else p.map (·.add (lo * sz))) sz k ((xs.drop (lo * sz)).take (k * sz)) :: J) :=
  .of (fun _ hw => sls_sub (hw.i _ hm) hk hc) (fun c hx => .inl (mem_bss.2 ⟨_, hm, bs_sub hk c hx⟩)) h
end
end Go.PK
