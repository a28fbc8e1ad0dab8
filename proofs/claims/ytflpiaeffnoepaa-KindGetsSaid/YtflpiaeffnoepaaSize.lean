import Derived.Test.YtflpiaeffnoepaaRdg
namespace Go.Proofs.Ytflpiaeffnoepaa
open Go.PK

def sizeV (k : Int) : Value := if 1 ≤ k ∧ k ≤ 14 then .tuple #[.int .i64 (sizeR k : Int), .int .i64 0] else .tuple #[.int .i64 0, .int .i64 120]
def nameL : List (List B8) := [[105#8, 109#8, 117#8], [98#8, 97#8, 114#8, 111#8], [109#8, 97#8, 103#8], [111#8, 100#8, 111#8], [103#8, 110#8, 115#8, 115#8], [100#8, 105#8, 115#8, 99#8, 108#8, 111#8, 115#8, 101#8], [98#8, 101#8, 97#8, 99#8, 111#8, 110#8], [109#8, 111#8, 100#8, 101#8], [114#8, 101#8, 115#8, 101#8, 116#8], [114#8, 111#8, 108#8, 108#8], [115#8, 97#8, 118#8, 101#8], [113#8, 117#8, 101#8, 114#8, 121#8], [115#8, 116#8, 97#8, 116#8, 117#8, 115#8], [104#8, 101#8, 97#8, 108#8, 116#8, 104#8]]
def nameV (k : Int) : Value := if 1 ≤ k ∧ k ≤ 14 then .string (txt (nameL.getD (k.toNat - 1) [])) else .string (txt [])
theorem size_at {n : Nat} (h : 1 ≤ n ∧ n ≤ 14) {tab : List Value} {o : Nat} (ht : ∀ j, j < 14 → tab[o + j * 1]? = some (.int .i64 (sizeR ((j : Int) + 1)))) : tab[o + (n - 1) * 1]? = some (.int .i64 (sizeR (n : Int))) := by
  have := ht (n - 1) (by omega)
  rwa [show ((n - 1 : Nat) : Int) + 1 = n by omega] at this
theorem name_at {n : Nat} (h : 1 ≤ n ∧ n ≤ 14) {tab : List Value} {o : Nat} (ht : ∀ j, j < 14 → tab[o + j * 1]? = some (.string (txt (nameL.getD j [])))) : tab[o + (n - 1) * 1]? = some (nameV (n : Int)) := by
  have := ht (n - 1) (by omega)
  rw [nameV, if_pos (by omega)]
  simpa using this
theorem tab14 {p : Nat → Prop} (h0 : p 0) (h1 : p 1) (h2 : p 2) (h3 : p 3) (h4 : p 4) (h5 : p 5) (h6 : p 6) (h7 : p 7) (h8 : p 8) (h9 : p 9) (h10 : p 10) (h11 : p 11) (h12 : p 12) (h13 : p 13) : ∀ j, j < 14 → p j
  | 0, _ => h0
  | 1, _ => h1
  | 2, _ => h2
  | 3, _ => h3
  | 4, _ => h4
  | 5, _ => h5
  | 6, _ => h6
  | 7, _ => h7
  | 8, _ => h8
  | 9, _ => h9
  | 10, _ => h10
  | 11, _ => h11
  | 12, _ => h12
  | 13, _ => h13
  | _ + 14, h => by omega

theorem size_any (k : Int) : Spc Try.prog 17 #[.int .i64 k] [] [] (Is (sizeV k)) := by
  refine Spc.enter Try.func17 rfl rfl rfl (fun w0 hw0 => ?_)
  refine CW.seq ?_
  refine CW.region (ef := []) (bk := []) ?_
  refine RL.assign rfl rfl rfl rfl ?_
  refine RL.assign rfl rfl rfl rfl ?_
  refine RL.nil ?_
  refine NQ.seq ?_
  refine CW.seq ?_
  refine CW.region (ef := [1, 2]) (bk := [2]) ?_
  refine RL.buildA [_, _, _, _, _, _, _, _, _, _, _, _, _, _, _] Try.zeroValue178 Try.runUnderlying178 Try.sizeOf3 rfl rfl rfl rfl rfl ?_
  refine RL.alloc Try.zeroValue178 rfl rfl rfl rfl rfl ?_
  intro b1
  refine RL.storeW Try.sizeOf178 rfl rfl rfl rfl rfl rfl rfl (by first | rfl | exact ones_map one8 _ | exact ones_map (fun _ => rfl) _) (by repeat (first | exact Upd.here | apply Upd.there)) (by first | rfl | assumption | (simp only [List.length_map]; assumption) | (simp only [List.length_map, List.length_replicate]; done) | (simp; done)) (by first | rfl | assumption | (simp only [List.length_map]; assumption) | (simp only [List.length_map, List.length_replicate]; done) | (simp; done)) ?_
  refine RL.nil ?_
  refine NQ.seq ?_
  refine CW.seq ?_
  refine CW.seq ?_
  refine CW.region (ef := []) (bk := []) ?_
  refine RL.move rfl rfl rfl rfl ?_
  refine RL.bin rfl rfl rfl rfl rfl rfl ?_
  refine RL.move rfl rfl rfl rfl ?_
  -- STOP: part 8; op 3: d=9 ["move", ["t", 0]] guard=[2, False] (kind.go:38)
  refine RL.part (d := 8) rfl (fun h1 => ?_) (fun h1 => ?_)
  ·
    refine RL.skip rfl rfl rfl rfl ?_
    refine RL.skip rfl rfl rfl rfl ?_
    refine RL.pickT rfl rfl rfl rfl rfl ?_
    refine RL.nil ?_
    refine NQ.seq ?_
    refine CW.only (.cons (k := 0) rfl (.cons (k := 2) rfl (.cons (k := 3) rfl (.cons (k := 4) rfl (.cons (k := 11) rfl .nil))))) ?_
    refine CW.condT rfl rfl ?_
    refine CW.seq ?_
    refine CW.region (ef := []) (bk := []) ?_
    refine RL.assign rfl rfl rfl rfl ?_
    refine RL.assign rfl rfl rfl rfl ?_
    refine RL.nil ?_
    refine NQ.seq ?_
    refine CW.ret ?_
    refine RQ.seq ?_
    -- STOP: ret; end
    have h1 : k < 1 := by simpa using h1
    exact RQ.post (res2 rfl rfl rfl) (Split.none _) ⟨by rw [sizeV, if_neg (by omega)], rfl, rfl⟩
  ·
    refine RL.move rfl rfl rfl rfl ?_
    refine RL.bin rfl rfl rfl rfl rfl rfl ?_
    refine RL.pickF rfl rfl rfl rfl rfl ?_
    refine RL.nil ?_
    refine NQ.seq ?_
    refine CW.only (.cons (k := 0) rfl (.cons (k := 2) rfl (.cons (k := 3) rfl (.cons (k := 4) rfl (.cons (k := 11) rfl .nil))))) ?_
    -- STOP: if; todo top: ["code", ["cond", ["t", 11], ["seq", ["region", 3, [{"d": 2, "op": ["assign", ["c", ["int", "Go.IntKind.i64", 0]]], "ty": 3, "pos": "kind.go:39", "after": [], "guard": null}, {"d": 3, "op": ["assign",
    have h1 : ¬ k < 1 := by simpa using h1
    refine CW.cond rfl (fun h2 => ?_) (fun h2 => ?_)
    ·
      refine CW.seq ?_
      refine CW.region (ef := []) (bk := []) ?_
      refine RL.assign rfl rfl rfl rfl ?_
      refine RL.assign rfl rfl rfl rfl ?_
      refine RL.nil ?_
      refine NQ.seq ?_
      refine CW.ret ?_
      refine RQ.seq ?_
      -- STOP: ret; end
      have h2 : 14 < k := by simpa using h2
      exact RQ.post (res2 rfl rfl rfl) (Split.none _) ⟨by rw [sizeV, if_neg (by omega)], rfl, rfl⟩
    ·
      refine CW.skip ?_
      refine NQ.seq ?_
      refine CW.seq ?_
      refine CW.region (ef := []) (bk := []) ?_
      refine RL.move rfl rfl rfl rfl ?_
      -- STOP: op; op 1: d=13 ["indexAddr", 178, ["t", 4], ["t", 12]] guard=None (kind.go:41)
      have h2 : ¬ 14 < k := by simpa using h2
      obtain ⟨m, rfl⟩ : ∃ m : Nat, k = (m : Int) := ⟨k.toNat, by omega⟩
      have hm : 1 ≤ m ∧ m ≤ 14 := by omega
      have hv := size_at hm (o := 1) (tab := (.int .i64 0) :: [.int .i64 24, .int .i64 8, .int .i64 4, .int .i64 8, .int .i64 29, .int .i64 36, .int .i64 8, .int .i64 1, .int .i64 0, .int .i64 4, .int .i64 0, .int .i64 1, .int .i64 37, .int .i64 16]) (tab14 rfl rfl rfl rfl rfl rfl rfl rfl rfl rfl rfl rfl rfl rfl)
      rw [show 1 + (m - 1) * 1 = 0 + m * 1 by omega] at hv
      refine RL.idxAAt (j := m) Try.runUnderlying178 Try.sizeOf3 rfl rfl rfl rfl rfl rfl (by omega) ?_
      refine RL.load Try.isAgg3 rfl rfl rfl rfl (by first | assumption | (apply Rd.get; (solve | (repeat (first | exact List.Mem.head _ | apply List.Mem.tail))); assumption) | (apply Rd.getS; (solve | (repeat (first | exact List.Mem.head _ | apply List.Mem.tail))); assumption) | (apply Rd.getO; (solve | (repeat (first | exact List.Mem.head _ | apply List.Mem.tail))); assumption) | (apply Rd.getI; (solve | (repeat (first | exact List.Mem.head _ | apply List.Mem.tail))); assumption) | (apply Rd.cel; (solve | (repeat (first | exact List.Mem.head _ | apply List.Mem.tail))); exact rfl) | (apply Rd.celI; (solve | (repeat (first | exact List.Mem.head _ | apply List.Mem.tail))); exact rfl)) ?_
      refine RL.assign rfl rfl rfl rfl ?_
      refine RL.assign rfl rfl rfl rfl ?_
      refine RL.nil ?_
      refine NQ.seq ?_
      refine CW.only (.cons (k := 2) rfl (.cons (k := 3) rfl .nil)) ?_
      refine CW.ret ?_
      -- STOP: ret; end
      exact RQ.post (res2 rfl rfl rfl) (Split.none _) ⟨by rw [sizeV, if_pos (by omega)], rfl, rfl⟩
theorem name_any (k : Int) : Spc Try.prog 20 #[.int .i64 k] [] [] (Is (nameV k)) := by
  refine Spc.enter Try.func20 rfl rfl rfl (fun w0 hw0 => ?_)
  refine CW.seq ?_
  refine CW.region (ef := []) (bk := []) ?_
  refine RL.assign rfl rfl rfl rfl ?_
  refine RL.nil ?_
  refine NQ.seq ?_
  refine CW.seq ?_
  refine CW.region (ef := [1, 2]) (bk := [2]) ?_
  refine RL.buildA [_, _, _, _, _, _, _, _, _, _, _, _, _, _, _] Try.zeroValue179 Try.runUnderlying179 Try.sizeOf9 rfl rfl rfl rfl rfl ?_
  refine RL.alloc Try.zeroValue179 rfl rfl rfl rfl rfl ?_
  intro b1
  refine RL.storeW Try.sizeOf179 rfl rfl rfl rfl rfl rfl rfl (by first | rfl | exact ones_map one8 _ | exact ones_map (fun _ => rfl) _) (by repeat (first | exact Upd.here | apply Upd.there)) (by first | rfl | assumption | (simp only [List.length_map]; assumption) | (simp only [List.length_map, List.length_replicate]; done) | (simp; done)) (by first | rfl | assumption | (simp only [List.length_map]; assumption) | (simp only [List.length_map, List.length_replicate]; done) | (simp; done)) ?_
  refine RL.nil ?_
  refine NQ.seq ?_
  refine CW.seq ?_
  refine CW.seq ?_
  refine CW.region (ef := []) (bk := []) ?_
  refine RL.move rfl rfl rfl rfl ?_
  refine RL.bin rfl rfl rfl rfl rfl rfl ?_
  refine RL.move rfl rfl rfl rfl ?_
  -- STOP: part 7; op 3: d=8 ["move", ["t", 0]] guard=[2, False] (kind.go:47)
  refine RL.part (d := 7) rfl (fun h1 => ?_) (fun h1 => ?_)
  ·
    refine RL.skip rfl rfl rfl rfl ?_
    refine RL.skip rfl rfl rfl rfl ?_
    refine RL.pickT rfl rfl rfl rfl rfl ?_
    refine RL.nil ?_
    refine NQ.seq ?_
    refine CW.only (.cons (k := 0) rfl (.cons (k := 2) rfl (.cons (k := 3) rfl (.cons (k := 10) rfl .nil)))) ?_
    refine CW.condT rfl rfl ?_
    refine CW.seq ?_
    refine CW.region (ef := []) (bk := []) ?_
    refine RL.assign rfl rfl rfl rfl ?_
    refine RL.nil ?_
    refine NQ.seq ?_
    refine CW.ret ?_
    refine RQ.seq ?_
    -- STOP: ret; end
    have h1 : k < 1 := by simpa using h1
    exact RQ.post (res1 rfl rfl) (Split.none _) ⟨by rw [nameV, if_neg (by omega)]; rfl, rfl, rfl⟩
  ·
    refine RL.move rfl rfl rfl rfl ?_
    refine RL.bin rfl rfl rfl rfl rfl rfl ?_
    refine RL.pickF rfl rfl rfl rfl rfl ?_
    refine RL.nil ?_
    refine NQ.seq ?_
    refine CW.only (.cons (k := 0) rfl (.cons (k := 2) rfl (.cons (k := 3) rfl (.cons (k := 10) rfl .nil)))) ?_
    -- STOP: if; todo top: ["code", ["cond", ["t", 10], ["seq", ["region", 3, [{"d": 2, "op": ["assign", ["c", ["string", []]]], "ty": 9, "pos": "kind.go:48", "after": [], "guard": null}], false], ["ret"]], ["skip"]]]
    have h1 : ¬ k < 1 := by simpa using h1
    refine CW.cond rfl (fun h2 => ?_) (fun h2 => ?_)
    ·
      refine CW.seq ?_
      refine CW.region (ef := []) (bk := []) ?_
      refine RL.assign rfl rfl rfl rfl ?_
      refine RL.nil ?_
      refine NQ.seq ?_
      refine CW.ret ?_
      refine RQ.seq ?_
      -- STOP: ret; end
      have h2 : 14 < k := by simpa using h2
      exact RQ.post (res1 rfl rfl) (Split.none _) ⟨by rw [nameV, if_neg (by omega)]; rfl, rfl, rfl⟩
    ·
      refine CW.skip ?_
      refine NQ.seq ?_
      refine CW.seq ?_
      refine CW.region (ef := []) (bk := []) ?_
      refine RL.move rfl rfl rfl rfl ?_
      -- STOP: op; op 1: d=12 ["indexAddr", 179, ["t", 3], ["t", 11]] guard=None (kind.go:50)
      have h2 : ¬ 14 < k := by simpa using h2
      obtain ⟨m, rfl⟩ : ∃ m : Nat, k = (m : Int) := ⟨k.toNat, by omega⟩
      have hm : 1 ≤ m ∧ m ≤ 14 := by omega
      have hv := name_at hm (o := 1) (tab := (.string (txt [])) :: nameL.map (fun l => .string (txt l))) (tab14 rfl rfl rfl rfl rfl rfl rfl rfl rfl rfl rfl rfl rfl rfl)
      rw [show 1 + (m - 1) * 1 = 0 + m * 1 by omega] at hv
      refine RL.idxAAt (j := m) Try.runUnderlying179 Try.sizeOf9 rfl rfl rfl rfl rfl rfl (by omega) ?_
      refine RL.load Try.isAgg9 rfl rfl rfl rfl (by first | assumption | (apply Rd.get; (solve | (repeat (first | exact List.Mem.head _ | apply List.Mem.tail))); assumption) | (apply Rd.getS; (solve | (repeat (first | exact List.Mem.head _ | apply List.Mem.tail))); assumption) | (apply Rd.getO; (solve | (repeat (first | exact List.Mem.head _ | apply List.Mem.tail))); assumption) | (apply Rd.getI; (solve | (repeat (first | exact List.Mem.head _ | apply List.Mem.tail))); assumption) | (apply Rd.cel; (solve | (repeat (first | exact List.Mem.head _ | apply List.Mem.tail))); exact rfl) | (apply Rd.celI; (solve | (repeat (first | exact List.Mem.head _ | apply List.Mem.tail))); exact rfl)) ?_
      refine RL.assign rfl rfl rfl rfl ?_
      refine RL.nil ?_
      refine NQ.seq ?_
      refine CW.only (.cons (k := 2) rfl .nil) ?_
      refine CW.ret ?_
      -- STOP: ret; end
      exact RQ.post (res1 rfl rfl) (Split.none _) ⟨rfl, rfl, rfl⟩

theorem rsize_any (k : Int) : Spc Try.prog 18 #[.int .i64 k] [] [] (Is (sizeV k)) := by
  refine Spc.enter Try.func18 rfl rfl rfl (fun w0 hw0 => ?_)
  refine CW.seq ?_
  refine CW.region (ef := []) (bk := []) ?_
  refine RL.assign rfl rfl rfl rfl ?_
  refine RL.assign rfl rfl rfl rfl ?_
  refine RL.nil ?_
  refine NQ.seq ?_
  refine CW.seq ?_
  refine CW.region (ef := [0]) (bk := []) ?_
  refine RL.buildSlice [_, _, _, _, _, _, _, _, _, _, _, _, _, _] Try.runUnderlying68 Try.sizeOf3 Try.zeroValue3 rfl rfl (by decide) (by decide) rfl rfl rfl rfl rfl rfl ?_
  intro b1
  refine RL.assign rfl rfl rfl rfl ?_
  refine RL.nil ?_
  refine NQ.seq ?_
  refine CW.seq ?_
  refine CW.seq ?_
  refine CW.region (ef := []) (bk := []) ?_
  refine RL.move rfl rfl rfl rfl ?_
  refine RL.bin rfl rfl rfl rfl rfl rfl ?_
  refine RL.move rfl rfl rfl rfl ?_
  -- STOP: part 8; op 3: d=9 ["move", ["t", 0]] guard=[2, False] (ref.go:12)
  refine RL.part (d := 8) rfl (fun h1 => ?_) (fun h1 => ?_)
  ·
    refine RL.skip rfl rfl rfl rfl ?_
    refine RL.skip rfl rfl rfl rfl ?_
    refine RL.pickT rfl rfl rfl rfl rfl ?_
    refine RL.nil ?_
    refine NQ.seq ?_
    refine CW.only (.cons (k := 0) rfl (.cons (k := 2) rfl (.cons (k := 3) rfl (.cons (k := 4) rfl (.cons (k := 11) rfl .nil))))) ?_
    refine CW.condT rfl rfl ?_
    refine CW.seq ?_
    refine CW.region (ef := []) (bk := []) ?_
    refine RL.assign rfl rfl rfl rfl ?_
    refine RL.assign rfl rfl rfl rfl ?_
    refine RL.nil ?_
    refine NQ.seq ?_
    refine CW.ret ?_
    refine RQ.seq ?_
    -- STOP: ret; end
    have h1 : k < 1 := by simpa using h1
    exact RQ.post (res2 rfl rfl rfl) (Split.none _) ⟨by rw [sizeV, if_neg (by omega)], rfl, rfl⟩
  ·
    refine RL.move rfl rfl rfl rfl ?_
    refine RL.bin rfl rfl rfl rfl rfl rfl ?_
    refine RL.pickF rfl rfl rfl rfl rfl ?_
    refine RL.nil ?_
    refine NQ.seq ?_
    refine CW.only (.cons (k := 0) rfl (.cons (k := 2) rfl (.cons (k := 3) rfl (.cons (k := 4) rfl (.cons (k := 11) rfl .nil))))) ?_
    -- STOP: if; todo top: ["code", ["cond", ["t", 11], ["seq", ["region", 3, [{"d": 2, "op": ["assign", ["c", ["int", "Go.IntKind.i64", 0]]], "ty": 3, "pos": "ref.go:13", "after": [], "guard": null}, {"d": 3, "op": ["assign", 
    have h1 : ¬ k < 1 := by simpa using h1
    refine CW.cond rfl (fun h2 => ?_) (fun h2 => ?_)
    ·
      refine CW.seq ?_
      refine CW.region (ef := []) (bk := []) ?_
      refine RL.assign rfl rfl rfl rfl ?_
      refine RL.assign rfl rfl rfl rfl ?_
      refine RL.nil ?_
      refine NQ.seq ?_
      refine CW.ret ?_
      refine RQ.seq ?_
      -- STOP: ret; end
      have h2 : 14 < k := by simpa using h2
      exact RQ.post (res2 rfl rfl rfl) (Split.none _) ⟨by rw [sizeV, if_neg (by omega)], rfl, rfl⟩
    ·
      have h2 : ¬ 14 < k := by simpa using h2
      obtain ⟨m, rfl⟩ : ∃ m : Nat, k = (m : Int) := ⟨k.toNat, by omega⟩
      have hm : 1 ≤ m ∧ m ≤ 14 := by omega
      have hv := size_at hm (o := 0) (tab := [.int .i64 24, .int .i64 8, .int .i64 4, .int .i64 8, .int .i64 29, .int .i64 36, .int .i64 8, .int .i64 1, .int .i64 0, .int .i64 4, .int .i64 0, .int .i64 1, .int .i64 37, .int .i64 16]) (tab14 rfl rfl rfl rfl rfl rfl rfl rfl rfl rfl rfl rfl rfl rfl)
      rw [show 0 + (m - 1) * 1 = (m - 1) * 1 by omega] at hv
      refine CW.skip ?_
      refine NQ.seq ?_
      refine CW.seq ?_
      refine CW.region (ef := []) (bk := []) ?_
      refine RL.move rfl rfl rfl rfl ?_
      refine RL.move rfl rfl rfl rfl ?_
      refine RL.binX rfl rfl rfl rfl rfl rfl (wrapV_i64 (by omega) (by omega)) ?_
      -- STOP: op; op 3: d=15 ["indexAddr", 68, ["t", 12], ["t", 14]] guard=None (ref.go:15)
      refine RL.idx (j := m - 1) Try.runUnderlying68 Try.sizeOf3 rfl rfl rfl rfl rfl (by omega) (by omega) ?_
      -- STOP: op; op 4: d=16 ["load", 3, ["t", 15]] guard=None (ref.go:15)
      refine RL.load Try.isAgg3 rfl rfl rfl rfl ((Rds.all (by repeat (first | exact List.Mem.head _ | apply List.Mem.tail))).rd hv) ?_
      refine RL.assign rfl rfl rfl rfl ?_
      refine RL.assign rfl rfl rfl rfl ?_
      refine RL.nil ?_
      refine NQ.seq ?_
      refine CW.only (.cons (k := 2) rfl (.cons (k := 3) rfl .nil)) ?_
      refine CW.ret ?_
      -- STOP: ret; end
      exact RQ.post (res2 rfl rfl rfl) (Split.none _) ⟨by rw [sizeV, if_pos (by omega)], rfl, rfl⟩
theorem rname_any (k : Int) : Spc Try.prog 21 #[.int .i64 k] [] [] (Is (nameV k)) := by
  refine Spc.enter Try.func21 rfl rfl rfl (fun w0 hw0 => ?_)
  refine CW.seq ?_
  refine CW.region (ef := []) (bk := []) ?_
  refine RL.assign rfl rfl rfl rfl ?_
  refine RL.nil ?_
  refine NQ.seq ?_
  refine CW.seq ?_
  refine CW.region (ef := [0]) (bk := []) ?_
  refine RL.buildSlice [_, _, _, _, _, _, _, _, _, _, _, _, _, _] Try.runUnderlying180 Try.sizeOf9 Try.zeroValue9 rfl rfl (by decide) (by decide) rfl rfl rfl rfl rfl rfl ?_
  intro b1
  refine RL.assign rfl rfl rfl rfl ?_
  refine RL.nil ?_
  refine NQ.seq ?_
  refine CW.seq ?_
  refine CW.seq ?_
  refine CW.region (ef := []) (bk := []) ?_
  refine RL.move rfl rfl rfl rfl ?_
  refine RL.bin rfl rfl rfl rfl rfl rfl ?_
  refine RL.move rfl rfl rfl rfl ?_
  -- STOP: part 7; op 3: d=8 ["move", ["t", 0]] guard=[2, False] (ref.go:146)
  refine RL.part (d := 7) rfl (fun h1 => ?_) (fun h1 => ?_)
  ·
    refine RL.skip rfl rfl rfl rfl ?_
    refine RL.skip rfl rfl rfl rfl ?_
    refine RL.pickT rfl rfl rfl rfl rfl ?_
    refine RL.nil ?_
    refine NQ.seq ?_
    refine CW.only (.cons (k := 0) rfl (.cons (k := 2) rfl (.cons (k := 3) rfl (.cons (k := 10) rfl .nil)))) ?_
    refine CW.condT rfl rfl ?_
    refine CW.seq ?_
    refine CW.region (ef := []) (bk := []) ?_
    refine RL.assign rfl rfl rfl rfl ?_
    refine RL.nil ?_
    refine NQ.seq ?_
    refine CW.ret ?_
    refine RQ.seq ?_
    -- STOP: ret; end
    have h1 : k < 1 := by simpa using h1
    exact RQ.post (res1 rfl rfl) (Split.none _) ⟨by rw [nameV, if_neg (by omega)]; rfl, rfl, rfl⟩
  ·
    refine RL.move rfl rfl rfl rfl ?_
    refine RL.bin rfl rfl rfl rfl rfl rfl ?_
    refine RL.pickF rfl rfl rfl rfl rfl ?_
    refine RL.nil ?_
    refine NQ.seq ?_
    refine CW.only (.cons (k := 0) rfl (.cons (k := 2) rfl (.cons (k := 3) rfl (.cons (k := 10) rfl .nil)))) ?_
    -- STOP: if; todo top: ["code", ["cond", ["t", 10], ["seq", ["region", 3, [{"d": 2, "op": ["assign", ["c", ["string", []]]], "ty": 9, "pos": "ref.go:147", "after": [], "guard": null}], false], ["ret"]], ["skip"]]]
    have h1 : ¬ k < 1 := by simpa using h1
    refine CW.cond rfl (fun h2 => ?_) (fun h2 => ?_)
    ·
      refine CW.seq ?_
      refine CW.region (ef := []) (bk := []) ?_
      refine RL.assign rfl rfl rfl rfl ?_
      refine RL.nil ?_
      refine NQ.seq ?_
      refine CW.ret ?_
      refine RQ.seq ?_
      -- STOP: ret; end
      have h2 : 14 < k := by simpa using h2
      exact RQ.post (res1 rfl rfl) (Split.none _) ⟨by rw [nameV, if_neg (by omega)]; rfl, rfl, rfl⟩
    ·
      have h2 : ¬ 14 < k := by simpa using h2
      obtain ⟨m, rfl⟩ : ∃ m : Nat, k = (m : Int) := ⟨k.toNat, by omega⟩
      have hm : 1 ≤ m ∧ m ≤ 14 := by omega
      have hv := name_at hm (o := 0) (tab := nameL.map (fun l => .string (txt l))) (tab14 rfl rfl rfl rfl rfl rfl rfl rfl rfl rfl rfl rfl rfl rfl)
      rw [show 0 + (m - 1) * 1 = (m - 1) * 1 by omega] at hv
      refine CW.skip ?_
      refine NQ.seq ?_
      refine CW.seq ?_
      refine CW.region (ef := []) (bk := []) ?_
      refine RL.move rfl rfl rfl rfl ?_
      refine RL.move rfl rfl rfl rfl ?_
      refine RL.binX rfl rfl rfl rfl rfl rfl (wrapV_i64 (by omega) (by omega)) ?_
      -- STOP: op; op 3: d=14 ["indexAddr", 180, ["t", 11], ["t", 13]] guard=None (ref.go:149)
      refine RL.idx (j := m - 1) Try.runUnderlying180 Try.sizeOf9 rfl rfl rfl rfl rfl (by omega) (by omega) ?_
      -- STOP: op; op 4: d=15 ["load", 9, ["t", 14]] guard=None (ref.go:149)
      refine RL.load Try.isAgg9 rfl rfl rfl rfl ((Rds.all (by repeat (first | exact List.Mem.head _ | apply List.Mem.tail))).rd hv) ?_
      refine RL.assign rfl rfl rfl rfl ?_
      refine RL.nil ?_
      refine NQ.seq ?_
      refine CW.only (.cons (k := 2) rfl .nil) ?_
      refine CW.ret ?_
      -- STOP: ret; end
      exact RQ.post (res1 rfl rfl) (Split.none _) ⟨rfl, rfl, rfl⟩
end Go.Proofs.Ytflpiaeffnoepaa
