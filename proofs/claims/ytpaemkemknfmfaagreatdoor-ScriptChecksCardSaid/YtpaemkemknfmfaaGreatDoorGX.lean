import Derived.Test.YtpaemkemknfmfaaGreatDoorG0
import Derived.Shelf.Strconv.ErrVarParseInt
import Derived.Shelf.Pu.ErrVarParseUint
import Derived.Test.YtpaemkemknfmfaaGreatDoorPE
import Derived.KernelRfl
import Derived.Test.YtpaemkemknfmfaaGreatDoorFacts
import Derived.Lib.ItoaLen
import Derived.Test.YtpaemkemknfmfaaGreatDoorBase0
set_option linter.unusedVariables false
set_option linter.unusedSimpArgs false
namespace Go.Proofs.YtpaemkemknfmfaaGreatDoor
open Go.PK Go.RowKit Go.Shelf
/-! ### The library's variables, its functions -/
theorem Spc.ofB {P : Program} {f : FuncId} {args : Array Value} {I : List It} {v : Value} (h : ∀ w, Sat I [] w → Calls P f args w fun e w' => e = .returned v ∧ Below w.heap.size w w') : Spc P f args I [] (Is v) := fun w hw => (h w hw).mono (by
  rintro e w' ⟨rfl, hb⟩
  exact ⟨v, [], [], rfl, ⟨rfl, rfl, rfl⟩, ⟨hb.os, hb.tape, hb.output, hb.size, fun b hb' _ => hb.block b hb', Nat.le_refl 0⟩, ⟨by simp, by simp, by simp, by simp⟩, by simp, by simp⟩)
noncomputable def gG (n : String) : Nat := (Tryz.prog.globalNamed n).getD 0
theorem gG_pow : Tryz.prog.globalNamed "internal/strconv.uint64pow10" = some (gG "internal/strconv.uint64pow10") := by kernel_rfl
theorem gG_syn : Tryz.prog.globalNamed "strconv.ErrSyntax" = some (gG "strconv.ErrSyntax") := by kernel_rfl
theorem gG_ran : Tryz.prog.globalNamed "strconv.ErrRange" = some (gG "strconv.ErrRange") := by kernel_rfl
def gvA (w : World) : Prop := (Lib.TabIs Tryz.prog w "internal/strconv.uint64pow10" .u64 Lib.pow10Tab ∧ (∃ tp p, w.var? Tryz.prog "strconv.ErrSyntax" = some #[.iface tp p])) ∧ ((∃ tp p, w.var? Tryz.prog "strconv.ErrRange" = some #[.iface tp p]) ∧ ∃ m, w.cell? ⟨gG "internal/bytealg.MaxLen", 0, none⟩ = some (.int .i64 m))
theorem var_same {P : Program} {n : String} {g : Nat} {w w' : World} (hg : P.globalNamed n = some g) (h : w'.heap[g]? = w.heap[g]?) : w'.var? P n = w.var? P n := by simp [World.var?, hg, h]
theorem var_lt {P : Program} {n : String} {g : Nat} {w : World} {cs : Array Value} (hg : P.globalNamed n = some g) (h : w.var? P n = some cs) : g < w.heap.size := by
  simp only [World.var?, hg, Option.bind_some] at h
  split at h
  · next e => exact (Array.getElem?_eq_some_iff.1 e).1
  · cases h
noncomputable def gvI : It where
  bs := [gG "internal/strconv.uint64pow10", gG "strconv.ErrSyntax", gG "strconv.ErrRange", gG "internal/bytealg.MaxLen"]
  A := gvA
  fr w w' h hA := by
    obtain ⟨⟨h1, t1, p1, h2⟩, ⟨t2, p2, h3⟩, m, h4⟩ := hA
    refine ⟨⟨?_, t1, p1, ?_⟩, ⟨t2, p2, ?_⟩, m, ?_⟩
    · unfold Lib.TabIs at h1 ⊢; rw [var_same gG_pow (h _ (by simp))]; exact h1
    · rw [var_same gG_syn (h _ (by simp))]; exact h2
    · rw [var_same gG_ran (h _ (by simp))]; exact h3
    · rw [World.cell?_of_block (w := w) (h _ (by simp))]; exact h4
  lt w hA b hb := by
    obtain ⟨⟨h1, t1, p1, h2⟩, ⟨t2, p2, h3⟩, m, h4⟩ := hA
    simp only [List.mem_cons, List.not_mem_nil, or_false] at hb
    rcases hb with rfl | rfl | rfl | rfl
    · exact var_lt gG_pow h1
    · exact var_lt gG_syn h2
    · exact var_lt gG_ran h3
    · exact World.block_lt_of_cell? _ _ h4
theorem grow_below (w : World) (k : Nat) (os : Array Obj) : Below w.heap.size w (Go.Sort.grow (w.drewN k) os) := ⟨rfl, rfl, rfl, by show w.heap.size ≤ (w.heap ++ os).size; simp, fun b hb => by show (w.heap ++ os)[b]? = _; rw [Array.getElem?_append_left hb]⟩
theorem fmt_any (n : Int) (h1 : -9223372036854775808 ≤ n) (h2 : n ≤ 9223372036854775807) : Spc Tryz.prog 89 #[.int .i64 n, .int .i64 10] [gvI] [] (Is (.string (txt (itoT n)))) := Spc.ofB fun w hw =>
  (Any.strconv_FormatInt_10 Tryz.lFmt n h1 h2 w (hw.i gvI (by simp)).1.1).mono (by
    rintro e w' ⟨rfl, k, os, rfl⟩
    exact ⟨by rw [txt, itoT_map h1 h2], grow_below w k os⟩)
/-! ### Numbers that are read -/
noncomputable def numV (s : Tx) : Int := match Lib.parseIntB 64 (s.map UInt8.ofBitVec) with
  | .ok v => v
  | .range => Lib.intSat 64 (s.map UInt8.ofBitVec)
  | _ => 0
def piB (s : Tx) : Bool := match Lib.parseIntB 64 (s.map UInt8.ofBitVec) with
  | .ok _ => true
  | _ => false
theorem txt_data (s : Tx) : (txt s).data.toList = s.map UInt8.ofBitVec := by simp [txt]
theorem numV_of {s : Tx} {v : Int} (h : numT s = some v) : numV s = v ∧ piB s = true := by
  obtain ⟨rfl, h1, h2⟩ := itoT_numT h
  rw [numV, piB, pi_itoT h1 h2]; exact ⟨rfl, rfl⟩
theorem piB_bd {s : Tx} (h : piB s = true) : -9223372036854775808 ≤ numV s ∧ numV s ≤ 9223372036854775807 := by
  unfold piB at h
  split at h
  · next v e =>
    rw [numV, e]
    have := Lib.parseIntB_bounds e
    simp only [Nat.add_one_sub_one] at this
    show -9223372036854775808 ≤ v ∧ v ≤ 9223372036854775807
    omega
  · cases h
theorem num_isSome (s : Tx) : (numT s).isSome = (piB s && (itoT (numV s) == s)) := by
  rw [Bool.eq_iff_iff, Bool.and_eq_true, beq_iff_eq]
  constructor
  · intro h
    obtain ⟨v, hv⟩ := Option.isSome_iff_exists.1 h
    obtain ⟨e, hp⟩ := numV_of hv
    exact ⟨hp, by rw [e]; exact (itoT_numT hv).1⟩
  · rintro ⟨hp, e⟩
    obtain ⟨h1, h2⟩ := piB_bd hp
    rw [← e, numT_itoT h1 h2]; rfl
/-- What a text gives that is read as a number. -/
def NuR (v : Value) (ok : Bool) : Value → List It → List It → Prop := fun r I' H' => ∃ er, r = .tuple #[v, er] ∧ ((ok = true ∧ er = .nilIface) ∨ (ok = false ∧ ∃ t q, er = .iface t (.pointer (some q)))) ∧ I' = [] ∧ H' = []
theorem NuR.of {P : Program} {f : FuncId} {args : Array Value} {I : List It} {v : Value} {ok : Bool} (h : ∀ w, Sat I [] w → Calls P f args w fun e w' => (∃ er, e = .returned (.tuple #[v, er]) ∧ ((ok = true ∧ er = .nilIface) ∨ (ok = false ∧ ∃ t q, er = .iface t (.pointer (some q))))) ∧ Below w.heap.size w w') : Spc P f args I [] (NuR v ok) := fun w hw => (h w hw).mono (by
  rintro e w' ⟨⟨er, rfl, hr⟩, hb⟩
  exact ⟨_, [], [], rfl, ⟨er, rfl, hr, rfl, rfl⟩, ⟨hb.os, hb.tape, hb.output, hb.size, fun b hb' _ => hb.block b hb', Nat.le_refl 0⟩, ⟨by simp, by simp, by simp, by simp⟩, by simp, by simp⟩)
theorem pi_any (s : Tx) (hs : s.length ≤ 281474976710656) : Spc Tryz.prog 108 #[.string (txt s), .int .i64 10, .int .i64 64] [gvI] [] (NuR (.int .i64 (numV s)) (piB s)) := NuR.of fun w hw => by
  have hsz := txt_size s
  obtain ⟨⟨-, t1, p1, h2⟩, ⟨t2, p2, h3⟩, -⟩ := hw.i gvI (by simp)
  have hv : numV s = match Lib.parseIntB 64 (txt s).data.toList with
    | .ok v => v
    | .range => Lib.intSat 64 (txt s).data.toList
    | _ => 0 := by rw [txt_data]; rfl
  have hp : piB s = match Lib.parseIntB 64 (txt s).data.toList with
    | .ok _ => true
    | _ => false := by rw [txt_data]; rfl
  rw [hv, hp]
  cases h : Lib.parseIntB 64 (txt s).data.toList with
  | ok v =>
    refine (Any.strconv_ParseInt_10_at64_ok Tryz.lPi (txt s) (by omega) v h w).mono ?_
    rintro e w' ⟨rfl, hw'⟩
    refine ⟨⟨.nilIface, rfl, .inl ⟨rfl, rfl⟩⟩, ?_⟩
    rcases hw' with rfl | ⟨t, rfl⟩
    · exact Below.refl _ _
    · exact Lib.bytesWorld_below _ _ _
  | range =>
    refine (Any.strconv_ParseInt_10_at64_range_var Tryz.lPi (txt s) (by omega) h t2 p2 w h3).mono ?_
    rintro e w' ⟨N, rfl, -, -, hb⟩
    exact ⟨⟨_, rfl, .inr ⟨rfl, _, _, rfl⟩⟩, hb⟩
  | _ =>
    refine (Any.strconv_ParseInt_10_at64_syntax_var Tryz.lPi (txt s) (by omega) h t1 p1 w h2).mono ?_
    rintro e w' ⟨N, rfl, -, -, hb⟩
    exact ⟨⟨_, rfl, .inr ⟨rfl, _, _, rfl⟩⟩, hb⟩
noncomputable def bareV (s : Tx) : Nat := match Lib.parseUintB 64 (s.map UInt8.ofBitVec) with
  | .ok v => v
  | .range => 18446744073709551615
  | _ => 0
def puB (s : Tx) : Bool := match Lib.parseUintB 64 (s.map UInt8.ofBitVec) with
  | .ok _ => true
  | _ => false
theorem bareV_of {s : Tx} {v : Nat} (h : bareT s = some v) : bareV s = v ∧ puB s = true := by
  obtain ⟨rfl, h1⟩ := decT_bareT h
  rw [bareV, puB, pu_decT h1]; exact ⟨rfl, rfl⟩
theorem pu_lt : ∀ (s : List UInt8) (m n : Nat), m < 18446744073709551616 → Lib.parseUintM 18446744073709551615 m s = .ok n → n < 18446744073709551616
  | [], m, n, hm, h => by simp [Lib.parseUintM] at h; omega
  | c :: r, m, n, hm, h => by
    rw [Lib.parseUintM] at h
    split at h
    · split at h
      · cases h
      · split at h
        · cases h
        · exact pu_lt r _ n (by omega) h
    · cases h
theorem puB_bd {s : Tx} : bareV s < 18446744073709551616 := by
  unfold bareV
  split
  · next v e =>
    rw [Lib.parseUintB] at e
    split at e
    · cases e
    · exact pu_lt _ 0 v (by omega) e
  · omega
  · omega
theorem bare_isSome (s : Tx) : (bareT s).isSome = (puB s && (decT (bareV s) == s)) := by
  rw [Bool.eq_iff_iff, Bool.and_eq_true, beq_iff_eq]
  constructor
  · intro h
    obtain ⟨v, hv⟩ := Option.isSome_iff_exists.1 h
    obtain ⟨e, hp⟩ := bareV_of hv
    exact ⟨hp, by rw [e]; exact (decT_bareT hv).1⟩
  · rintro ⟨hp, e⟩
    rw [← e, bareT_decT puB_bd]; rfl
theorem pu_any (s : Tx) (hs : s.length ≤ 281474976710656) : Spc Tryz.prog 64 #[.string (txt s), .int .i64 10, .int .i64 64] [gvI] [] (NuR (.int .u64 (bareV s)) (puB s)) := NuR.of fun w hw => by
  have hsz := txt_size s
  obtain ⟨⟨-, t1, p1, h2⟩, ⟨t2, p2, h3⟩, -⟩ := hw.i gvI (by simp)
  have hv : bareV s = match Lib.parseUintB 64 (txt s).data.toList with
    | .ok v => v
    | .range => 18446744073709551615
    | _ => 0 := by rw [txt_data]; rfl
  have hp : puB s = match Lib.parseUintB 64 (txt s).data.toList with
    | .ok _ => true
    | _ => false := by rw [txt_data]; rfl
  rw [hv, hp]
  cases h : Lib.parseUintB 64 (txt s).data.toList with
  | ok v =>
    refine (Any.strconv_ParseUint_10_at64_ok Tryz.lPu (txt s) (by omega) v h w).mono ?_
    rintro e w' ⟨rfl, hw'⟩
    refine ⟨⟨.nilIface, rfl, .inl ⟨rfl, rfl⟩⟩, ?_⟩
    rcases hw' with rfl | rfl
    · exact Below.refl _ _
    · exact Lib.bytesWorld_below _ _ _
  | range =>
    refine (Any.strconv_ParseUint_10_at64_range_var Tryz.lPu (txt s) (by omega) h t2 p2 w h3).mono ?_
    rintro e w' ⟨N, rfl, -, -, hb⟩
    exact ⟨⟨_, rfl, .inr ⟨rfl, _, _, rfl⟩⟩, hb⟩
  | _ =>
    refine (Any.strconv_ParseUint_10_at64_syntax_var Tryz.lPu (txt s) (by omega) h t1 p1 w h2).mono ?_
    rintro e w' ⟨N, rfl, -, -, hb⟩
    exact ⟨⟨_, rfl, .inr ⟨rfl, _, _, rfl⟩⟩, hb⟩
/-! ### Cut and joined by the library -/
theorem split_any (c : B8) (s : Tx) (hs : s.length < 4294967281) : Spc Tryz.prog 17 #[.string (txt s), .string (txt [c])] [gvI] [] (fun v I' H' => ∃ b, v = .slice (some ⟨b, 0, none⟩) (splL c s).length (splL c s).length ∧ I' = [sls (some ⟨b, 0, none⟩) 1 (splL c s).length ((splL c s).map fun a => .string (txt a))] ∧ H' = []) := fun w hw => by
  have hsz := txt_size s
  obtain ⟨-, -, m, hm⟩ := hw.i gvI (by simp)
  have hcnt : Lib.countB (txt s) (txt [c]) + 1 = (splL c s).length := by
    show Lib.count (txt s).data.toList (txt [c]).data.toList + 1 = _
    rw [txt_data, txt_data, List.map_cons, List.map_nil, Lib.count_one, ← splL_len, splL_map (fun a b h => UInt8.ofBitVec.inj h)]
    simp
  have hdat : (Lib.splitB (txt [c]) 0 (Lib.countB (txt s) (txt [c])) (txt s)).map Value.string = (splL c s).map fun a => Value.string (txt a) := by
    have h1 := Lib.splitB_data (txt [c]) 0 (Lib.countB (txt s) (txt [c])) (txt s)
    rw [txt_data, txt_data, List.map_cons, List.map_nil, splK_eq _ _ _ (by
      show _ = Lib.count (txt s).data.toList (txt [c]).data.toList
      rw [txt_data, txt_data, List.map_cons, List.map_nil, Lib.count_one]), splL_map (fun a b h => UInt8.ofBitVec.inj h)] at h1
    have h2 : ∀ (l : List ByteArray) (r : List Tx), l.map (·.data.toList) = r.map (List.map UInt8.ofBitVec) → l.map Value.string = r.map fun a => Value.string (txt a) := by
      intro l
      induction l with
      | nil => intro r h; cases r with
        | nil => rfl
        | cons a r => cases h
      | cons x l ih => intro r h; cases r with
        | nil => cases h
        | cons a r =>
          rw [List.map_cons, List.map_cons, List.cons.injEq] at h
          rw [List.map_cons, List.map_cons, ih r h.2]
          congr 1
          congr 1
          cases x with
          | mk d => simp only [txt]; rw [← h.1]
    exact h2 _ _ h1
  refine (Any.strings_Split { Tryz.lSplit with } Tryz.lSplit.i9 (txt s) (txt [c]) m w (by omega) hm (by rw [txt_size]; simp)).mono ?_
  rintro e w' ⟨rfl, rfl⟩
  rw [hcnt, hdat]
  refine ⟨_, _, _, rfl, ⟨w.heap.size, rfl, rfl, rfl⟩, ?_, ⟨?_, by simp, by simp, by simp⟩, by simp, ?_⟩
  · have hb := (Below.refl w.heap.size w).alloc (Nat.le_refl _) (.cells ((splL c s).map fun a => Value.string (txt a)).toArray (Tryz.lSplit_ren.t 9))
    exact ⟨hb.os, hb.tape, hb.output, hb.size, fun b hb' _ => hb.block b hb', Nat.le_refl 0⟩
  · intro x hx
    rw [List.mem_singleton.1 hx]
    refine ⟨by simp, fun _ => by simp, fun j u hj => ?_⟩
    have : (w.alloc (.cells ((splL c s).map fun a => Value.string (txt a)).toArray (Tryz.lSplit_ren.t 9))).heap[w.heap.size]? = some (.cells ((splL c s).map fun a => Value.string (txt a)).toArray (Tryz.lSplit_ren.t 9)) := by
      show (w.heap.push _)[w.heap.size]? = _
      simp
    have hadd : (⟨w.heap.size, 0, none⟩ : Addr).add j = ⟨w.heap.size, j, none⟩ := by
      by_cases h0 : j = 0 <;> simp [Addr.add, h0]
    rw [hadd, World.cell?]
    simp only [this]
    simpa using hj
  · intro b hb
    simp only [bss_cons, bss_nil, List.append_nil, sls] at hb
    split at hb
    · cases hb
    · simp at hb; omega
/-! ### A byte's place -/
def ixB (c : B8) : Tx → Int
  | [] => -1
  | x :: r => if x = c then 0 else if ixB c r = -1 then -1 else ixB c r + 1
theorem ixB_map (c : B8) : ∀ s : Tx, Lib.indexByte (s.map UInt8.ofBitVec) (UInt8.ofBitVec c) = ixB c s
  | [] => rfl
  | x :: r => by
    rw [List.map_cons, Lib.indexByte, ixB, ixB_map c r]
    by_cases h : x = c
    · rw [if_pos h, if_pos (by simp [h])]
    · rw [if_neg h, if_neg (by simpa using fun e => h (UInt8.ofBitVec.inj e))]
      by_cases h2 : ixB c r = -1
      · rw [if_pos h2, if_pos (by simp [h2])]
      · rw [if_neg h2, if_neg (by simpa using h2)]
theorem ix_any (s : Tx) (c : B8) : Spc Tryz.prog 36 #[.string (txt s), U8 c] [] [] (Is (.int .i64 (ixB c s))) := Spc.ofB fun w _ =>
  (Any.strings_IndexByte Tryz.lIxB (txt s) (c.toNat : Int) w).mono (by
    rintro e w' ⟨rfl, rfl⟩
    refine ⟨?_, Below.refl _ _⟩
    rw [txt_data, ← ixB_map]
    congr 3
    show UInt8.ofBitVec (BitVec.ofNat 8 c.toNat) = _
    simp)
end Go.Proofs.YtpaemkemknfmfaaGreatDoor

namespace Go.Proofs.YtpaemkemknfmfaaGreatDoor
open Go.PK Go.RowKit Go.Shelf
/-! ### Numbers without a sign, written -/
theorem putCells_rowG {α : Type} [Inhabited α] (enc : α → Value) (d : List α) (xs rest : List Value) (h : xs.length = d.length) : Go.Sort.putCells enc 0 d.toArray (xs ++ rest).toArray = (d.map enc ++ rest).toArray := by
  apply Array.ext'
  simp only [Go.Sort.putCells, Array.toList_mapIdx]
  apply List.ext_getElem?
  intro k
  simp only [List.getElem?_mapIdx, List.size_toArray, Nat.zero_le, true_and, Nat.zero_add, Nat.sub_zero]
  by_cases hk : k < d.length
  · rw [List.getElem?_append_left (by omega), List.getElem?_append_left (by simpa using hk), List.getElem?_map, List.getElem?_eq_getElem (by omega), List.getElem?_eq_getElem hk]
    simp [hk]
  · rw [List.getElem?_append_right (by omega), List.getElem?_append_right (by simpa using hk), List.length_map, h]
    cases rest[k - d.length]? with
    | none => rfl
    | some v => simp [hk]
theorem decT_nd {u : Nat} (h : u < 18446744073709551616) : (decT u).length = Lib.nDigits u := by
  rw [← Lib.decDigits_length, ← decT_map u (by omega), List.length_map]
theorem nd20 {u : Nat} (h : u < 18446744073709551616) : Lib.nDigits u ≤ 20 := Lib.nDigits_le20 u h
abbrev z24 : List Value := List.replicate 24 (U8 0)
theorem fb_any (b u : Nat) (T : TypeId) (hu : u < 18446744073709551616) : Spc Tryz.prog 177 #[.slice (some ⟨b, 0, none⟩) (Lib.nDigits u) 24, .int .u64 (u : Int)] [] [cel b z24 T]
    (fun v I' H' => v = .tuple #[] ∧ I' = [] ∧ H' = [cel b (bytes (decT u) ++ List.replicate (24 - Lib.nDigits u) (U8 0)) T]) := fun w hw => by
  have hA := hw.h _ (List.Mem.head _)
  have hA : w.heap[b]? = some (.cells z24.toArray T (0, 0)) := hA
  have hb : b < w.heap.size := (Array.getElem?_eq_some_iff.1 hA).1
  have h20 := nd20 hu
  have hsz : (Array.replicate (Lib.nDigits u) (0 : UInt8)).size = Lib.nDigits u := by simp
  have hH : Go.Sort.Holds (fun (b : UInt8) => Value.int .u8 (b.toNat : Int)) w b 0 (Array.replicate (Lib.nDigits u) (0 : UInt8)) := fun j hj => by
    rw [hsz] at hj
    constructor
    · rw [getElem!_pos _ j (by simpa using hj)]
      have hlt : j < 24 := by omega
      simp only [World.cell?, hA]
      simp [hlt, U8]
    · simp [World.frozen?, hA]
  have c := Any.internal_strconv_formatBase10 Tryz.lFb b 0 24 u _ w hH (by rw [hsz]; exact Lib.lt_pow_nDigits u) hu (by rw [hsz]; omega)
  rw [hsz] at c
  refine c.mono ?_
  rintro e w' ⟨rfl, n, v', dk, rfl, hi⟩
  have hdk : dk = (Lib.decDigits u).toArray := by
    apply Array.ext
    · rw [hi.size, List.size_toArray, Lib.decDigits_length]
    · intro j h1 h2
      have hj : j < (Lib.decDigits u).length := by simpa using h2
      have := Lib.row_is_numeral hi j hj
      rw [getElem!_pos _ j h1] at this
      rw [← this]; simp
  have hm : (Lib.decDigits u).map (fun (b : UInt8) => Value.int .u8 (b.toNat : Int)) = bytes (decT u) := by
    rw [← decT_map u (by omega), List.map_map]; rfl
  have hget : ∀ k : Nat, ((Go.Sort.putRow (fun (b : UInt8) => Value.int .u8 (b.toNat : Int)) w b 0 dk).drewN n).heap[k]? = (w.heap.modify b (Go.Sort.onCells (Go.Sort.putCells (fun (b : UInt8) => Value.int .u8 (b.toNat : Int)) 0 dk)))[k]? := fun k => rfl
  refine ⟨_, [], _, rfl, ⟨rfl, rfl, rfl⟩, ⟨rfl, rfl, rfl, ?_, fun k hk hn => ?_, Nat.le_refl 0⟩, ⟨by simp, fun x hx => ?_, by simp [cel], by simp⟩, fun k hk => .inl hk, by simp⟩
  · show w.heap.size ≤ (w.heap.modify b _).size
    simp
  · rw [hget, Array.getElem?_modify, if_neg (by intro h; subst h; exact hn (by simp [cel]))]
  · rw [List.mem_singleton.1 hx]
    show _ = _
    rw [hget, Array.getElem?_modify, if_pos rfl, hA, hdk]
    show some (Go.Sort.onCells _ _) = _
    rw [Go.Sort.onCells, show z24 = List.replicate (Lib.nDigits u) (U8 0) ++ List.replicate (24 - Lib.nDigits u) (U8 0) by rw [List.replicate_append_replicate, show Lib.nDigits u + (24 - Lib.nDigits u) = 24 by omega], putCells_rowG _ _ _ _ (by rw [List.length_replicate, Lib.decDigits_length]), hm]
theorem Src.celPre {b nn : Nat} {cs xs : List Value} {T : TypeId} {I H : List It} (hm : cel b (xs ++ cs) T ∈ H) (hl : xs.length = nn) : Src I H (some ⟨b, 0, none⟩) nn 1 xs := by
  subst hl
  have h := Src.celAt (I := I) (off := 0) (mm := xs.length) (sz := 1) hm (by rw [List.length_append]; omega)
  rwa [List.drop_zero, Nat.mul_one, List.take_left] at h
theorem nd_any (u : Nat) (h1 : 1 ≤ u) (hu : u < 18446744073709551616) : Spc Tryz.prog 176 #[.int .u64 (u : Int)] [gvI] [] (Is (.int .i64 (Lib.nDigits u : Int))) := Spc.ofB fun w hw =>
  (Any.internal_strconv_numDigits Tryz.lNd u h1 hu w (hw.i gvI (by simp)).1.1).mono (by
    rintro e w' ⟨rfl, rfl⟩
    exact ⟨rfl, Below.refl _ _⟩)
theorem small_any (i : Nat) (h : i < 100) : Spc Tryz.prog 175 #[.int .i64 (i : Int)] [] [] (Is (.string (txt (decT i)))) := Spc.ofB fun w hw =>
  (Any.internal_strconv_small Tryz.lSm i h w).mono (by
    rintro e w' ⟨rfl, rfl⟩
    exact ⟨by rw [txt, decT_map i (by omega)], Below.refl _ _⟩)
theorem ifmtu_any (u : Nat) (hu : u < 18446744073709551616) : Spc Tryz.prog 107 #[.int .u64 (u : Int), .int .i64 10] [gvI] [] (Is (.string (txt (decT u)))) := by
  have h20 := nd20 hu
  refine Spc.enter Tryz.func107 rfl rfl rfl (fun w0 hw0 => ?_)
  refine CW.seq (CW.rg (RL.p rfl (RL.nil (NQ.seq (CW.seq (CW.seq (CW.rg (RL.p rfl (RL.p rfl (RL.nil (NQ.seq (CW.condT rfl (rfl) (CW.seq ?_)))))))))))))
  refine CW.seq (CW.rg (RL.p rfl (RL.p rfl (RL.nil (NQ.seq ?_)))))
  refine CW.cond rfl (fun h => ?_) (fun h => ?_)
  · have h' : u < 100 := by simp at h; omega
    refine CW.seq (CW.rg (RL.p rfl (RL.conv Tryz.runUnderlying39 Tryz.runUnderlying3 rfl rfl rfl rfl (RL.cast (d := 14) (v' := .int .i64 (u : Int)) rfl (by congr 1; simp [IntKind.wrap, IntKind.bits, IntKind.signed]; omega) ?_))))
    refine RL.callvq (small_any u h') Tryz.call175 rfl rfl rfl rfl ?_
    refine RL.p rfl (RL.nil (NQ.seq (CW.ok [0, 1, 4] rfl (CW.ret (RQ.seq (RQ.seq ?_))))))
    exact RQ.post (res1 rfl rfl) (Split.none _) ⟨rfl, rfl, rfl⟩
  ·
    have h' : ¬ u < 100 := by simp at h; omega
    refine CW.skip (NQ.seq (CW.seq (CW.region (ef := [0]) (bk := []) (RL.alloc (cs := List.replicate 24 (U8 0#8)) Tryz.zeroValue287 rfl rfl rfl rfl rfl ?_))))
    intro b1
    refine RL.nil (NQ.seq (CW.seq (CW.region (ef := [1]) (bk := []) (RL.p rfl (RL.callvq (nd_any u (by omega) hu) Tryz.call176 rfl rfl rfl rfl ?_)))))
    refine RL.p rfl (RL.nil (NQ.seq (CW.ok [0, 1, 5, 6] rfl (CW.seq (CW.region (ef := [3]) (bk := [3]) (RL.p rfl (RL.sliceA (lo := 0) (hi := Lib.nDigits u) Tryz.runUnderlying287 Tryz.sizeOf5 rfl rfl rfl rfl rfl rfl (by omega) (by omega) (by decide) ?_)))))))
    refine RL.p rfl (RL.callq (fb_any b1 u _ hu) Tryz.call177 rfl rfl rfl rfl rfl (.inr rfl) ?_)
    rintro _ _ _ ⟨rfl, rfl, rfl⟩
    refine RL.nil (NQ.seq (CW.seq (CW.rg (RL.p rfl (RL.sliceA (lo := 0) (hi := Lib.nDigits u) Tryz.runUnderlying287 Tryz.sizeOf5 rfl rfl rfl rfl rfl rfl (by omega) (by omega) (by decide) ?_)))))
    refine RL.bytesStr (bs := decT u) (e := 5) (by kernel_rfl) (by kernel_rfl) (by kernel_rfl) rfl rfl rfl rfl (Src.celPre (by repeat (first | exact List.Mem.head _ | apply List.Mem.tail)) (by rw [List.length_map, decT_nd hu]; rfl)) ?_
    refine RL.p rfl (RL.nil (NQ.seq (CW.ok [0, 1, 4] rfl (CW.ret (RQ.seq ?_)))))
    exact RQ.post (res1 rfl rfl) (Split.none _) ⟨rfl, rfl, rfl⟩
theorem fmtu_any (u : Nat) (hu : u < 18446744073709551616) : Spc Tryz.prog 65 #[.int .u64 (u : Int), .int .i64 10] [gvI] [] (Is (.string (txt (decT u)))) := by
  refine Spc.enter Tryz.func65 rfl rfl rfl (fun w0 hw0 => ?_)
  refine CW.seq (CW.rg (RL.p rfl (RL.nil (NQ.seq (CW.seq (CW.rg (RL.p rfl (RL.p rfl (RL.callvq (ifmtu_any u hu) Tryz.call107 rfl rfl rfl rfl ?_)))))))))
  refine RL.p rfl (RL.nil (NQ.seq (CW.ret ?_)))
  exact RQ.post (res1 rfl rfl) (Split.none _) ⟨rfl, rfl, rfl⟩
end Go.Proofs.YtpaemkemknfmfaaGreatDoor
