import Derived.Test.YthgjgeapfndeeaaGreatDoorEA
set_option linter.unusedVariables false
set_option linter.unusedSimpArgs false
/-
  EV, part 8: the machine: what an operation does to memory, a region, code, a call.
-/
namespace Go.PK
/-! ### Numbers laid bare -/
def frcN {β : Type} (c : Nat → β) : Nat → β
  | 0 => c 0
  | n + 1 => c (Nat.succ n)
theorem frcN_eq {β : Type} (c : Nat → β) (n : Nat) : frcN c n = c n := by cases n <;> rfl
def frcB {β : Type} (c : Bool → β) : Bool → β
  | true => c true
  | false => c false
theorem frcB_eq {β : Type} (c : Bool → β) (b : Bool) : frcB c b = c b := by cases b <;> rfl
def frcI {β : Type} (k : IntKind) (c : AV → β) : Int → β
  | .ofNat m => frcN (fun m => c (.val (.int k (.ofNat m)))) m
  | .negSucc m => frcN (fun m => c (.val (.int k (.negSucc m)))) m
theorem frcI_eq {β : Type} (k : IntKind) (c : AV → β) (n : Int) : frcI k c n = c (.val (.int k n)) := by
  cases n with
  | ofNat m => exact frcN_eq (fun m => c (.val (.int k (.ofNat m)))) m
  | negSucc m => exact frcN_eq (fun m => c (.val (.int k (.negSucc m)))) m
def frc {β : Type} (v : AV) (c : AV → β) : β := match v with
  | .val (.int k n) => frcI k c n
  | .val (.bool b) => frcB (fun b => c (.val (.bool b))) b
  | v => c v
theorem frc_eq {β : Type} (v : AV) (c : AV → β) : frc v c = c v := by
  unfold frc
  split
  · exact frcI_eq _ _ _
  · exact frcB_eq _ _
  · rfl
def takeL : List AV → Nat → Option (List AV)
  | _, 0 => some []
  | [], _ + 1 => none
  | x :: r, n + 1 => (takeL r n).map (x :: ·)
/-! ### Memory -/
def Blk.row : Blk → Option (List AV)
  | .cells _ l => some l
  | .own _ _ _ l => some l
  | _ => none
def loadA (P : Program) (t : TypeId) (id off : Nat) (h : Heap) : Option AV := match (h.get id).bind Blk.row, P.underlying t, P.info? t with
  | some l, some d, some i => bif aggD d then (takeL (l.drop off) i.size).map .agg else l[off]?
  | _, _, _ => none
def evLoad (P : Program) (t : TypeId) (x : Operand) (env : EnvT) (h : Heap) : Option AV := match evO env x with
  | some (.ptr id off) => loadA P t id off h
  | _ => none
abbrev Eff := Option (AV × Heap)
/-- A block that is new. -/
def newB (id : Nat) (b : Blk) (v : AV) (h : Heap) : Eff := match h.get id with
  | none => match h.set b id with
    | some h' => some (v, h')
    | none => none
  | some _ => none
/-- A block that turns: only one's own. -/
def turnB (hb : Heap) (id : Nat) (b : Blk) (v : AV) (h : Heap) : Eff := match hb.get id with
  | none => match h.set b id with
    | some h' => some (v, h')
    | none => none
  | some _ => none
def zeroA (P : Program) (t : TypeId) : Option (List AV) := match P.info? t with
  | some i => match i.zero with
    | some z => some (AV.val z).cells
    | none => none
  | none => none
def evAlloc (P : Program) (t : TypeId) (id : Nat) (h : Heap) : Eff := match zeroA P t with
  | some l => newB id (.cells t l) (.ptr id 0) h
  | none => none
def evBox (t : TypeId) (x : Operand) (env : EnvT) (id : Nat) (h : Heap) : Eff := match evO env x with
  | some v => newB id (.cells t v.cells) (.ptr id 0) h
  | none => none
def repA (l : List AV) : Nat → List AV
  | 0 => []
  | n + 1 => l ++ repA l n
def evBuildS (P : Program) (t : TypeId) (len : Nat) (ps : List (Nat × Operand)) (env : EnvT) (id : Nat) (h : Heap) : Eff := match P.underlying t with
  | some (.slice e) => match P.info? e, zeroA P e, partsA env ps with
    | some i, some z, some vs => match fillA (fun j => some (j * i.size, i.size)) (repA z len) vs with
      | some cs => bif Nat.blt 0 i.size && Nat.ble (len * i.size) 16777216 && Nat.beq z.length i.size then newB id (.cells e cs) (.sl id 0 len true len) h else none
      | none => none
    | _, _, _ => none
  | _ => none
def evMakeS (P : Program) (t : TypeId) (x y : Operand) (env : EnvT) (id : Nat) (h : Heap) : Eff := match P.underlying t, evO env x, evO env y with
  | some (.slice e), some (.val (.int _ (.ofNat n))), some (.val (.int _ (.ofNat m))) => match P.info? e, zeroA P e with
    | some i, some z => bif Nat.beq n m && (Nat.blt 0 n && (Nat.blt 0 i.size && (Nat.ble n 1000000 && (Nat.ble (n * i.bytes) 1000000 && Nat.beq z.length i.size)))) then newB id (.cells e (repA z n)) (.sl id 0 n true n) h else none
    | _, _ => none
  | _, _, _ => none
def evStore (P : Program) (hb : Heap) (t : TypeId) (x y : Operand) (env : EnvT) (h : Heap) : Eff := match evO env x, evO env y, P.info? t with
  | some (.ptr id off), some v, some i => bif Nat.beq v.cells.length i.size && v.cells.all AV.isOne then (match h.get id with
    | some (.cells T l) => bif Nat.ble (off + i.size) l.length then turnB hb id (.cells T (splA l off v.cells)) (.val undef) h else none
    | some (.own T sz n l) => bif Nat.ble (off + i.size) l.length then turnB hb id (.own T sz n (splA l off v.cells)) (.val undef) h else none
    | _ => none) else none
  | _, _, _ => none
/-- What a slice shows. -/
def rowA (sz : Nat) (x : AV) (h : Heap) : Option (Nat × List AV) := match x with
  | .sl id off len _ _ => match (h.get id).bind Blk.row with
    | some l => (takeL (l.drop off) (len * sz)).map fun r => (len, r)
    | none => none
  | .tail _ _ _ _ _ => some (0, [])
  | .val (.slice _ 0 _) => some (0, [])
  | _ => none
def zeroOk (P : Program) (e : TypeId) (n : Nat) : Bool := match zeroA P e with
  | some l => Nat.beq l.length n
  | none => false
/-- A slice that may be appended to: the block that it lies in from its head on. -/
def appA (hb : Heap) (e : TypeId) (size id : Nat) (h : Heap) (u : AV) (n : Nat) (xs : List AV) (m : Nat) (ys : List AV) : Eff := match u with
  | .val (.slice none 0 0) => bif Nat.beq m 0 then some (u, h) else newB id (.own e size m ys) (.sl id 0 m false 0) h
  | .sl id0 off _ k c => bif Nat.beq m 0 then (bif !k || Nat.ble n c then some (u, h) else none) else match h.get id0 with
    | some (.own T sz n0 l) => bif Nat.beq off 0 && (!k && (Nat.beq c 0 && (Nat.beq sz size && decide (T = e)))) then (match turnB hb id0 .dead u h with
      | some (_, h1) => newB id (.own e size (n + m) (xs ++ ys)) (.sl id 0 (n + m) false 0) h1
      | none => none) else none
    | some (.cells T l) => bif k && Nat.beq c n then newB id (.own e size (n + m) (xs ++ ys)) (.sl id 0 (n + m) false 0) h
      else bif Nat.beq off 0 && (k && (Nat.beq (c * size) l.length && (Nat.ble n c && (Nat.ble c 1000000 && decide (T = e))))) then (match turnB hb id0 .dead u h with
        | some (_, h1) => newB id (.own e size (n + m) (xs ++ ys)) (.sl id 0 (n + m) false 0) h1
        | none => none) else none
    | _ => none
  | _ => none
def evAppend (P : Program) (hb : Heap) (t : TypeId) (x y : Operand) (env : EnvT) (id : Nat) (h : Heap) : Eff := match P.underlying t, evO env x, evO env y with
  | some (.slice e), some u, some v => match P.info? e with
    | some i => match rowA i.size u h, rowA i.size v h with
      | some (n, xs), some (m, ys) => bif Nat.blt 0 i.size && (Nat.ble (n + m) 1000000 && (Nat.ble ((n + m) * i.bytes) 100000000 && (ys.all AV.isOne && zeroOk P e i.size))) then
          appA hb e i.size id h u n xs m ys
        else none
      | _, _ => none
    | none => none
  | _, _, _ => none
/-! #### Maps -/
def wfkB (k : IntKind) (n : Int) : Bool := (Lit.int k n).wf
def fitB : EK → AV → Bool
  | .bool, .val (.bool _) => true
  | .int q, .val (.int q' n) => decide (q' = q) && wfkB q n
  | _, _ => false
def fitsB : List EK → List AV → Bool
  | [], [] => true
  | k :: ks, c :: cs => fitB k c && fitsB ks cs
  | _, _ => false
def sameB : AV → AV → Bool
  | .val (.bool a), .val (.bool b) => a == b
  | .val (.int _ a), .val (.int _ b) => decide (a = b)
  | _, _ => false
def samesB : List AV → List AV → Bool
  | [], [] => true
  | a :: l, b :: m => sameB a b && samesB l m
  | _, _ => false
def flatOf (P : Program) (t : TypeId) : Option (List EK) := match P.underlying t, shape P 20 t with
  | some d, some ks => bif aggD d && P.keyTypeAt 20 t && Nat.beq (P.cellsOf t) ks.length && !P.eqGuardType P.depth t then some ks else none
  | _, _ => none
def isAggA : AV → Bool
  | .agg _ => true
  | .val (.agg _) => true
  | _ => false
def evFlat (P : Program) (op : BinOp) (t : TypeId) (x y : Operand) (env : EnvT) : Option AV := match flatOf P t, evO env x, evO env y with
  | some ks, some u, some v => bif (isAggA u && isAggA v) && (fitsB ks u.cells && fitsB ks v.cells) then (match op with
    | .eql => some (.val (.bool (samesB u.cells v.cells)))
    | .neq => some (.val (.bool (!samesB u.cells v.cells)))
    | _ => none) else none
  | _, _, _ => none
deriving instance DecidableEq for EK
deriving instance DecidableEq for KS
def keyKS (P : Program) (t : TypeId) : Option KS := match P.underlying t with
  | some (.int k) => some (.int k)
  | _ => (flatOf P t).map .flat
def KS.goodB : KS → AV → Bool
  | .int k, .val (.int k' _) => decide (k' = k)
  | .flat ks, .agg l => fitsB ks l
  | _, _ => false
def lookA (k : AV) : List (AV × AV) → Option AV
  | [] => none
  | (a, v) :: r => bif samesB k.cells a.cells then some v else lookA k r
def setA (k v : AV) : List (AV × AV) → List (AV × AV)
  | [] => [(k, v)]
  | (a, u) :: r => bif samesB k.cells a.cells then (a, v) :: r else (a, u) :: setA k v r
def KS.all (ks : KS) (c : List (AV × AV)) : Bool := c.all fun p => ks.goodB p.1
def evMkMap (P : Program) (t : TypeId) (id : Nat) (h : Heap) : Eff := match P.underlying t with
  | some (.map kt _) => match keyKS P kt with
    | some ks => newB id (.map ks []) (.map id) h
    | none => none
  | _ => none
def Blk.entries : Blk → Option (KS × List (AV × AV))
  | .map ks c => some (ks, c)
  | .mapE ks c _ _ => some (ks, c)
  | _ => none
def orZero (P : Program) (t : TypeId) (o : Option AV) : Option AV := match P.info? t with
  | some i => match i.zero with
    | some z => some (o.getD (.val z))
    | none => none
  | none => none
def evLook (P : Program) (t : TypeId) (x y : Operand) (two : Bool) (env : EnvT) (h : Heap) : Option AV := match P.underlying t, evO env x, evO env y with
  | some (.map kt et), some (.map id), some k => match keyKS P kt, (h.get id).bind Blk.entries with
    | some ks, some (ks', c) => bif decide (ks' = ks) && (ks.goodB k && ks.all c) then (match orZero P et (lookA k c) with
      | some v => some (bif two then .tup [v, .val (.bool (lookA k c).isSome)] else v)
      | none => none) else none
    | _, _ => none
  | some (.map kt et), some (.val (.map none)), some k => match keyKS P kt with
    | some ks => bif ks.goodB k then (match orZero P et none with
      | some v => some (bif two then .tup [v, .val (.bool false)] else v)
      | none => none) else none
    | none => none
  | _, _, _ => none
def evMapUp (P : Program) (hb : Heap) (t : TypeId) (x y z : Operand) (env : EnvT) (h : Heap) : Eff := match P.underlying t, evO env x, evO env y, evO env z with
  | some (.map kt _), some (.map id), some k, some v => match keyKS P kt, h.get id with
    | some ks, some (.map ks' c) => bif decide (ks' = ks) && (ks.goodB k && ks.all c) then turnB hb id (.map ks (setA k v c)) (.val undef) h else none
    | _, _ => none
  | _, _, _, _ => none
def evMapE (P : Program) (hb : Heap) (t : TypeId) (x y : Operand) (env : EnvT) (nid : Nat) (h : Heap) : Eff := match P.underlying t, evO env x, evO env y with
  | some (.map kt et), some (.map id), some k => match keyKS P kt, h.get id with
    | some ks, some (.map ks' c) => bif decide (ks' = ks) && (ks.goodB k && ks.all c) then (match orZero P et (lookA k c) with
      | some v => match newB nid .dead v h with
        | some (_, h1) => turnB hb id (.mapE ks (setA k v c) k nid) (.tup [v, .stamp nid]) h1
        | none => none
      | none => none) else none
    | _, _ => none
  | _, _, _ => none
def evEntSt (hb : Heap) (x y z : Operand) (env : EnvT) (h : Heap) : Eff := match evO env x, evO env y, evO env z with
  | some (.map id), some (.stamp i), some v => match h.get id with
    | some (.mapE ks c k j) => bif Nat.beq i j && (ks.goodB k && ks.all c) then turnB hb id (.map ks (setA k v c)) (.val undef) h else none
    | _ => none
  | _, _, _ => none
/-! ### The machine -/
structure RA where
  pre : List Nat
  s : Sq
  ef : List Nat
  bk : List Nat
  tq : List Nat
  K : Nat
structure Mch where
  P : Program
  an : Nat → Nat → Option RA
  hk : Nat → Option (Heap → Heap → Nat → List AV → Option (AV × Heap × Nat))
  ok : Nat → Bool
structure St where
  env : EnvT
  h : Heap
  nx : Nat
inductive Xt
  | nrm (s : St)
  | ext (id : Nat) (s : St)
  | gto (l : Nat) (s : St)
  | ret (s : St)
noncomputable def putA (nt : Nat) (d : Option Nat) (v : AV) (env : EnvT) : Option EnvT := match d with
  | some d => bif Nat.blt d nt then frc v fun v => env.set v d else none
  | none => some env
def wantA (L : List Oper) (env : EnvT) (o : Oper) : Option Bool := match o.guard with
  | none => some true
  | some (j, w) => match nth L j with
    | some oj => match oj.dst with
      | some dj => match env.get dj with
        | some (.val (.bool b)) => some (b == w)
        | some _ => some false
        | none => none
      | none => none
    | none => none
/-- Operations but calls: level (1: reads; 2: makes; 3: turns), value, memory. -/
def evM (P : Program) (hb : Heap) (op : Op) : EnvT → Nat → Heap → Option (Nat × AV × Heap) := match op with
  | .load t x => fun env _ h => (evLoad P t x env h).map fun v => (1, v, h)
  | .alloc t => fun _ id h => (evAlloc P t id h).map fun r => (2, r)
  | .box t x => fun env id h => (evBox t x env id h).map fun r => (2, r)
  | .buildSlice t len ps => fun env id h => (evBuildS P t len ps.toList env id h).map fun r => (2, r)
  | .makeSlice t x y => fun env id h => (evMakeS P t x y env id h).map fun r => (2, r)
  | .store t x y => fun env _ h => (evStore P hb t x y env h).map fun r => (3, r)
  | .binOp o t x y _ => fun env _ h => (evFlat P o t x y env).map fun v => (0, v, h)
  | .makeMap t none => fun _ id h => (evMkMap P t id h).map fun r => (2, r)
  | .lookup t x y two => fun env _ h => (evLook P t x y two env h).map fun v => (1, v, h)
  | .mapUpdate t x y z => fun env _ h => (evMapUp P hb t x y z env h).map fun r => (3, r)
  | .mapEntry t x y => fun env id h => (evMapE P hb t x y env id h).map fun r => (3, r)
  | .entryStore _ x y z => fun env _ h => (evEntSt hb x y z env h).map fun r => (3, r)
  | .call ⟨.builtin .append, ⟨[x, y]⟩, ⟨[t, t2]⟩⟩ => fun env id h => bif decide (t2 = t) then (evAppend P hb t x y env id h).map fun r => (3, r) else none
  | _ => fun _ _ _ => none
def calleeA (c : Call) (env : EnvT) : Option (Nat × List AV) := match c.callee with
  | .value x => match evO env x, evsA env c.args.toList with
    | some (.fn f a b), some l => some (f, a ++ l ++ b)
    | _, _ => none
  | _ => none
section
variable (C : Mch) (call : Heap → Heap → Nat → Nat → List AV → Option (AV × Heap × Nat)) (nt : Nat)
def callOp (hb : Heap) (op : Op) (env : EnvT) (h : Heap) (nx : Nat) : Option (AV × Heap × Nat) := match op with
  | .call c => match calleeA c env with
    | some (f, args) => call hb h nx f args
    | none => none
  | _ => none
/-- An operation in the text's order. -/
noncomputable def stepT (hb : Heap) (L : List Oper) (o : Oper) (s : St) : Option St := match wantA L s.env o with
  | some true => match evP C.P o.op s.env with
    | some v => match putA nt o.dst v s.env with
      | some env => some ⟨env, s.h, s.nx⟩
      | none => none
    | none => match evM C.P hb o.op s.env s.nx s.h with
      | some (lv, v, h) => match putA nt o.dst v s.env with
        | some env => frcN (fun nx => some ⟨env, h, nx⟩) (bif Nat.ble 2 lv then Nat.succ s.nx else s.nx)
        | none => none
      | none => match callOp call hb o.op s.env s.h s.nx with
        | some (v, h, nx) => match putA nt o.dst v s.env with
          | some env => some ⟨env, h, nx⟩
          | none => none
        | none => none
  | some false => match putA nt o.dst (.val undef) s.env with
    | some env => some ⟨env, s.h, s.nx⟩
    | none => none
  | none => none
noncomputable def evT (hb : Heap) (L : List Oper) : List Oper → St → Option St
  | [] => some
  | o :: r => fun s => match stepT C call nt hb L o s with
    | some s' => evT hb L r s'
    | none => none
mutual
def AV.idsIn (h : Heap) : AV → Bool
  | .val _ => true
  | .ptr id _ => (h.get id).isSome
  | .sl id _ _ k _ => k && (h.get id).isSome
  | .map id => (h.get id).isSome
  | .stamp _ => false
  | .tail _ _ _ _ _ => false
  | .fn _ a b => AV.idsInL h a && AV.idsInL h b
  | .agg l => AV.idsInL h l
  | .tup l => AV.idsInL h l
def AV.idsInL (h : Heap) : List AV → Bool
  | [] => true
  | x :: r => x.idsIn h && AV.idsInL h r
end
def lvOk (R : RA) (i lv : Nat) : Bool := bif Nat.beq lv 0 then true else bif Nat.beq lv 1 then !R.tq.contains i else bif Nat.beq lv 2 then R.ef.contains i else R.ef.contains i && R.bk.contains i
/-- An operation in another order: its numbers begin at 'num'. -/
noncomputable def stepD (hb : Heap) (R : RA) (L : List Oper) (i num : Nat) (s : St) : Option St := match nth L i with
  | some o => match wantA L s.env o with
    | some true => match evP C.P o.op s.env with
      | some v => match putA nt o.dst v s.env with
        | some env => some ⟨env, s.h, num⟩
        | none => none
      | none => match evM C.P hb o.op s.env num s.h with
        | some (lv, v, h) => bif lvOk R i lv then (match putA nt o.dst v s.env with
          | some env => frcN (fun nx => some ⟨env, h, nx⟩) (bif Nat.ble 2 lv then Nat.succ num else num)
          | none => none) else none
        | none => bif R.bk.contains i then
            (match callOp call hb o.op s.env s.h num with
            | some (v, h, nx) => bif R.ef.contains i then (match putA nt o.dst v s.env with
              | some env => some ⟨env, h, nx⟩
              | none => none) else none
            | none => none)
          else bif R.ef.contains i then
            (match callOp call s.h o.op s.env s.h num with
            | some (v, h, nx) => match putA nt o.dst v s.env with
              | some env => some ⟨env, h, nx⟩
              | none => none
            | none => none)
          else
            (match callOp call s.h o.op s.env s.h num with
            | some (v, _, _) => bif v.idsIn s.h && !R.tq.contains i then (match putA nt o.dst v s.env with
              | some env => some ⟨env, s.h, num⟩
              | none => none) else none
            | none => none)
    | some false => match putA nt o.dst (.val undef) s.env with
      | some env => some ⟨env, s.h, num⟩
      | none => none
    | none => none
  | none => none
/-- Quiet ones ahead of all others: what only yields, and loads of what stays; 'U': the blocks that these read. -/
noncomputable def stepQ (L : List Oper) (i : Nat) (env : EnvT) (h : Heap) (U : List Nat) : Option (EnvT × List Nat) := match nth L i with
  | some o => match wantA L env o with
    | some true => match evP C.P o.op env with
      | some v => match putA nt o.dst v env with
        | some env => some (env, U)
        | none => none
      | none => match o.op with
        | .load t x => match evO env x with
          | some (.ptr id off) => match loadA C.P t id off h with
            | some v => match putA nt o.dst v env with
              | some env => some (env, id :: U)
              | none => none
            | none => none
          | _ => none
        | _ => none
    | some false => match putA nt o.dst (.val undef) env with
      | some env => some (env, U)
      | none => none
    | none => none
  | none => none
noncomputable def evQ (L : List Oper) (h : Heap) : List Nat → EnvT → List Nat → Option (EnvT × List Nat)
  | [] => fun env U => some (env, U)
  | i :: r => fun env U => match stepQ C nt L i env h U with
    | some (env, U) => evQ L h r env U
    | none => none
def addU (h : Heap) : List Nat → Heap → Option Heap
  | [], hb => some hb
  | id :: r, hb => match h.get id with
    | some b => match hb.set b id with
      | some hb => addU h r hb
      | none => none
    | none => none
def forkA (eqS : St → St → Bool) (br : Nat → St → Option St) : List Nat → St → Option St
  | [] => fun _ => none
  | k :: r => fun s => match br k s with
    | some t => bif r.all (fun k => match br k s with
        | some t' => eqS t t'
        | none => false) then some t else none
    | none => none
def nextN (R : RA) (s s' : St) : St := ⟨s'.env, s'.h, bif Nat.beq R.K 0 then s'.nx else s.nx⟩
noncomputable def evD (eqS : St → St → Bool) (hb : Heap) (R : RA) (L : List Oper) : Sq → St → Option St
  | .nil => some
  | .cons i l => fun s => match stepD C call nt hb R L i (s.nx + i * R.K) s with
    | some s' => evD eqS hb R L l (nextN R s s')
    | none => none
  | .fork ks f => forkA eqS (fun k s => match stepD C call nt hb R L k (s.nx + k * R.K) s with
    | some s' => evD eqS hb R L (f k) (nextN R s s')
    | none => none) ks
def Sq.behind : List Nat → Sq → Sq
  | [], s => s
  | i :: r, s => .cons i (Sq.behind r s)
noncomputable def evRg (eqS : St → St → Bool) (fn : Nat) (hb : Heap) (id : Nat) (ops : Array Oper) : Bool → St → Option Xt
  | false => fun s => (evT C call nt hb ops.toList ops.toList s).map .nrm
  | true => match C.an fn id with
    | some R => bif chk ops (Sq.behind R.pre R.s) R.ef R.bk R.tq then fun s => match evQ C nt ops.toList s.h R.pre s.env [] with
        | some (env, U) => match addU s.h U hb with
          | some hb' => match evD C call nt eqS hb' R ops.toList R.s ⟨env, s.h, s.nx⟩ with
            | some s' => some (.nrm ⟨s'.env, s'.h, s'.nx + ops.size * R.K⟩)
            | none => none
          | none => none
        | none => none
      else fun _ => none
    | none => fun _ => none
def thenX (k : St → Option Xt) : Option Xt → Option Xt
  | some (.nrm s) => k s
  | r => r
def iterA (b : St → Option Xt) : Nat → St → Option Xt
  | 0 => fun _ => none
  | n + 1 => fun s => thenX (iterA b n) (b s)
def blockX (id : Nat) : Option Xt → Option Xt
  | some (.ext j s) => bif Nat.beq j id then some (.nrm s) else some (.ext j s)
  | r => r
def condX (x y : St → Option Xt) (s : St) : Option AV → Option Xt
  | some (.val (.bool true)) => x s
  | some (.val (.bool false)) => y s
  | _ => none
def jumpX (prev : Code → St → Option Xt) (l : Nat) (rest : Code) : Nat → St → Option Xt
  | 0 => fun _ => none
  | n + 1 => fun s => match prev rest s with
    | some (.gto l' s') => bif Nat.beq l' l then jumpX prev l rest n s' else none
    | r => r
def scopeX (prev : Code → St → Option Xt) (c : Code) : Option Xt → Option Xt
  | some (.gto l s) => match findLabel c l with
    | some rest => jumpX prev l rest 1000 s
    | none => none
  | r => r
noncomputable def evCn (eqS : St → St → Bool) (fn : Nat) (hb : Heap) (prev : Code → St → Option Xt) : Code → St → Option Xt
  | .skip => fun s => some (.nrm s)
  | .label _ => fun s => some (.nrm s)
  | .region id ops d => evRg C call nt eqS fn hb id ops d
  | .seq a b => fun s => thenX (evCn eqS fn hb prev b) (evCn eqS fn hb prev a s)
  | .cond c x y => fun s => condX (evCn eqS fn hb prev x) (evCn eqS fn hb prev y) s (evO s.env c)
  | .block id c => fun s => blockX id (evCn eqS fn hb prev c s)
  | .loop c => iterA (evCn eqS fn hb prev c) 1000000
  | .exit id => fun s => some (.ext id s)
  | .goto l => fun s => some (.gto l s)
  | .scope c => fun s => scopeX prev c (evCn eqS fn hb prev c s)
  | .ret => fun s => some (.ret s)
  | _ => fun _ => none
noncomputable def evC (eqS : St → St → Bool) (fn : Nat) (hb : Heap) : Nat → Code → St → Option Xt
  | 0 => fun _ _ => none
  | n + 1 => evCn C call nt eqS fn hb (evC eqS fn hb n)
end
def resVA (P : Program) (s : St) : ResultVar → Option AV
  | .tmp t => s.env.get t
  | .cell a t => match s.env.get a with
    | some (.ptr id off) => loadA P t id off s.h
    | _ => none
def resL (P : Program) (s : St) : List ResultVar → Option (List AV)
  | [] => some []
  | x :: r => match resVA P s x, resL P s r with
    | some v, some l => some (v :: l)
    | _, _ => none
def resA (P : Program) (s : St) (l : List ResultVar) : Option AV := match resL P s l with
  | some [v] => some v
  | some l => some (.tup l)
  | none => none
def endX (P : Program) (rs : List ResultVar) : Option Xt → Option (AV × Heap × Nat)
  | some (.nrm s) => (resA P s rs).map fun v => (v, s.h, s.nx)
  | some (.ret s) => (resA P s rs).map fun v => (v, s.h, s.nx)
  | _ => none
noncomputable def envOf : List AV → Nat → EnvT → Option EnvT
  | [], _, e => some e
  | v :: r, n, e => match e.set v n with
    | some e' => envOf r (Nat.succ n) e'
    | none => none
end Go.PK

/-
  EV, part 9: what holds behind an operation that makes or turns memory.
-/
namespace Go.PK
section
variable {P : Program} {θ θ' θ'' : Vl} {h h' h'' hb : Heap} {w w' w'' : World} {id : Nat} {b b' : Blk} {v : AV} {u : Value}
structure Ext (θ : Vl) (h : Heap) (θ' : Vl) (h' : Heap) : Prop where
  e : ∀ id, (h.get id).isSome = true → θ' id = θ id ∧ (h'.get id).isSome = true
theorem Ext.refl (θ : Vl) (h : Heap) : Ext θ h θ h := ⟨fun _ hi => ⟨rfl, hi⟩⟩
theorem Ext.trans (a : Ext θ h θ' h') (b : Ext θ' h' θ'' h'') : Ext θ h θ'' h'' := ⟨fun id hi => ⟨((b.e id (a.e id hi).2).1).trans (a.e id hi).1, (b.e id (a.e id hi).2).2⟩⟩
theorem Ext.ah (e : Ext θ h θ' h') : ∀ k m, AH θ h k m → AH θ' h' k m := fun k m hk => ⟨(e.e k hk.1).2, by rw [(e.e k hk.1).1]; exact hk.2⟩
theorem Ext.th (e : Ext θ h θ' h') : ∀ k m, AH θ h k m → θ' k = θ k := fun k _ hk => (e.e k hk.1).1
theorem decs_ext {A : Nat → Nat → Prop} (hx : ∀ k m, A k m → θ' k = θ k) {l : List AV} (hw : ∀ x ∈ l, x.Wf A) : l.map (AV.dec θ') = l.map (AV.dec θ) := List.map_congr_left fun x hm => AV.dec_ext hx (hw x hm)
theorem decPs_ext {A : Nat → Nat → Prop} (hx : ∀ k m, A k m → θ' k = θ k) {c : List (AV × AV)} (hw : ∀ x ∈ c.map (·.1) ++ c.map (·.2), x.Wf A) : c.map (decP θ') = c.map (decP θ) := List.map_congr_left fun p hm => by
  unfold decP
  rw [AV.dec_ext hx (hw p.1 (List.mem_append_left _ (List.mem_map_of_mem hm))), AV.dec_ext hx (hw p.2 (List.mem_append_right _ (List.mem_map_of_mem hm)))]
theorem itA_ext {A : Nat → Nat → Prop} (hx : ∀ k m, A k m → θ' k = θ k) (hid : θ' id = θ id) (hw : ∀ x ∈ b.vals, x.Wf A) : itA θ' id b = itA θ id b := by
  cases b with
  | cells T l => simp only [itA, hid]; rw [decs_ext (l := l) hx hw]
  | own T sz n l => simp only [itA, hid]; rw [decs_ext (l := l) hx hw]
  | map ks c => simp only [itA, hid]; rw [decPs_ext hx hw]
  | mapE ks c k i =>
    have hw' : ∀ x ∈ c.map (·.1) ++ c.map (·.2), x.Wf A := fun x hx => hw x (List.mem_cons_of_mem _ (List.mem_cons_of_mem _ hx))
    have hk : k.Wf A := hw k (List.mem_cons_self ..)
    have hi : (AV.stamp i).Wf A := hw _ (List.mem_cons_of_mem _ (List.mem_cons_self ..))
    simp only [itA, hid]; rw [decPs_ext hx hw', AV.dec_ext hx hk, hx _ _ hi]
  | dead => simp only [itA]
/-- What holds behind an operation, or a call. -/
structure Aft (θ : Vl) (h hb : Heap) (w : World) (v : AV) (h' : Heap) (u : Value) (w' : World) (θ' : Vl) : Prop where
  d : u = v.dec θ'
  x : Ext θ h θ' h'
  k : KeepP (Own θ h hb) w w'
  m : Mem θ' h' w'
  wf : v.Wf (AH θ' h')
  o : ∀ x, Own θ' h' hb x → x < w.heap.size → Own θ h hb x
def Post (θ : Vl) (h hb : Heap) (w : World) (v : AV) (h' : Heap) (u : Value) (w' : World) : Prop := ∃ θ', Aft θ h hb w v h' u w' θ'
/-- Nothing has turned. -/
theorem Post.same (hm : Mem θ h w) (hv : v.Wf (AH θ h)) : Post θ h hb w v h (v.dec θ) w := ⟨θ, rfl, .refl θ h, .refl _ w, hm, hv, fun _ hx _ => hx⟩
def upd (θ : Vl) (id : Nat) (p : Nat × Nat) : Vl := fun k => if k = id then p else θ k
theorem upd_at {p : Nat × Nat} : upd θ id p id = p := if_pos rfl
theorem upd_ne {p : Nat × Nat} {k : Nat} (hk : k ≠ id) : upd θ id p k = θ k := if_neg hk
theorem newB_inv {v' : AV} (hn : newB id b v h = some (v', h')) : h.get id = none ∧ v' = v ∧ ∀ j, h'.get j = if j = id then some b else h.get j := by
  unfold newB at hn
  split at hn
  · next h0 =>
    split at hn
    · next hs => cases hn; exact ⟨h0, rfl, Tr.set_get hs⟩
    · cases hn
  · cases hn
theorem turnB_inv {v' : AV} (hn : turnB hb id b v h = some (v', h')) : hb.get id = none ∧ v' = v ∧ ∀ j, h'.get j = if j = id then some b else h.get j := by
  unfold turnB at hn
  split at hn
  · next h0 =>
    split at hn
    · next hs => cases hn; exact ⟨h0, rfl, Tr.set_get hs⟩
    · cases hn
  · cases hn
theorem ext_new (h0 : h.get id = none) (hg : ∀ j, h'.get j = if j = id then some b else h.get j) {p : Nat × Nat} : Ext θ h (upd θ id p) h' := ⟨fun k hk => by
  have hne : k ≠ id := fun e => by subst e; rw [h0] at hk; cases hk
  exact ⟨upd_ne hne, by rw [hg, if_neg hne]; exact hk⟩⟩
theorem inv_new (hi : Inv hb h) (h0 : h.get id = none) (hg : ∀ j, h'.get j = if j = id then some b else h.get j) : Inv hb h' := fun k c hk => by
  have hne : k ≠ id := fun e => by subst e; rw [hi _ _ hk] at h0; cases h0
  rw [hg, if_neg hne]; exact hi _ _ hk
theorem inv_turn (hi : Inv hb h) (h0 : hb.get id = none) (hg : ∀ j, h'.get j = if j = id then some b else h.get j) : Inv hb h' := fun k c hk => by
  have hne : k ≠ id := fun e => by subst e; rw [hk] at h0; cases h0
  rw [hg, if_neg hne]; exact hi _ _ hk
/-- A block has come. -/
theorem aft_new (hm : Mem θ h w) (h0 : h.get id = none) (hg : ∀ j, h'.get j = if j = id then some b else h.get j) (p : Nat × Nat) (hw : Grow w w')
    (hA : (itA (upd θ id p) id b).A w') (hb' : ∀ x ∈ (itA (upd θ id p) id b).bs, w.heap.size ≤ x) (hv : ∀ x ∈ b.vals, x.Wf (AH θ h)) (hwf : v.Wf (AH (upd θ id p) h')) (hu : u = v.dec (upd θ id p)) : Aft θ h hb w v h' u w' (upd θ id p) := by
  have hx : Ext θ h (upd θ id p) h' := ext_new h0 hg
  have old : ∀ k c, h.get k = some c → k ≠ id := fun k c hk e => by subst e; rw [hk] at h0; cases h0
  have it : ∀ k c, h.get k = some c → itA (upd θ id p) k c = itA θ k c := fun k c hk => itA_ext hx.th (upd_ne (old k c hk)) (hm.wf k c hk)
  refine ⟨hu, hx, .grow hw, ⟨fun k c hk => ?_, fun k c hk => ?_, fun k c k' c' hk hk' hne => ?_⟩, hwf, fun x ⟨k, c, g1, g2, g3⟩ hlt => ?_⟩
  · rw [hg] at hk
    by_cases e : k = id
    · subst e; rw [if_pos rfl] at hk; cases hk; exact hA
    · rw [if_neg e] at hk
      rw [it k c hk]
      exact (hm.grow hw).ok k c hk
  · rw [hg] at hk
    by_cases e : k = id
    · subst e; rw [if_pos rfl] at hk; cases hk; exact fun x hx' => (hv x hx').mono hx.ah
    · rw [if_neg e] at hk
      exact fun x hx' => (hm.wf k c hk x hx').mono hx.ah
  · rw [hg] at hk hk'
    by_cases e : k = id
    · subst e
      rw [if_pos rfl] at hk; cases hk
      rw [if_neg (Ne.symm hne)] at hk'
      rw [it k' c' hk']
      exact fun x hx1 hx2 => by have := hm.lt hk' x hx2; have := hb' x hx1; omega
    · rw [if_neg e] at hk
      rw [it k c hk]
      by_cases e' : k' = id
      · subst e'
        rw [if_pos rfl] at hk'; cases hk'
        exact fun x hx1 hx2 => by have := hm.lt hk x hx1; have := hb' x hx2; omega
      · rw [if_neg e'] at hk'
        rw [it k' c' hk']
        exact hm.dj k c k' c' hk hk' hne
  · rw [hg] at g2
    by_cases e : k = id
    · subst e; rw [if_pos rfl] at g2; cases g2
      have := hb' x g3; omega
    · rw [if_neg e] at g2
      rw [it k c g2] at g3
      exact ⟨k, c, g1, g2, g3⟩
theorem post_new (hm : Mem θ h w) (h0 : h.get id = none) (hg : ∀ j, h'.get j = if j = id then some b else h.get j) (p : Nat × Nat) (hw : Grow w w')
    (hA : (itA (upd θ id p) id b).A w') (hb' : ∀ x ∈ (itA (upd θ id p) id b).bs, w.heap.size ≤ x) (hv : ∀ x ∈ b.vals, x.Wf (AH θ h)) (hwf : v.Wf (AH (upd θ id p) h')) (hu : u = v.dec (upd θ id p)) : Post θ h hb w v h' u w' := ⟨_, aft_new hm h0 hg p hw hA hb' hv hwf hu⟩
/-- A block has turned. -/
theorem aft_turn (hm : Mem θ h w) (h0 : h.get id = some b) (hi : hb.get id = none) (hg : ∀ j, h'.get j = if j = id then some b' else h.get j) (hw : Keeps (itA θ id b).bs w w')
    (hA : (itA θ id b').A w') (hb' : ∀ x ∈ (itA θ id b').bs, x ∈ (itA θ id b).bs) (hv : ∀ x ∈ b'.vals, x.Wf (AH θ h)) (hwf : v.Wf (AH θ h)) (hu : u = v.dec θ) : Aft θ h hb w v h' u w' θ := by
  have hx : Ext θ h θ h' := ⟨fun k hk => ⟨rfl, by
    rw [hg]; split
    · rfl
    · exact hk⟩⟩
  refine ⟨hu, hx, ⟨hw.os, hw.tape, hw.output, hw.size, fun x hlt hn => hw.block x hlt fun hxb => hn ⟨id, b, hi, h0, hxb⟩, hw.drawn⟩, ⟨fun k c hk => ?_, fun k c hk => ?_, fun k c k' c' hk hk' hne => ?_⟩, hwf.mono hx.ah, fun x ⟨k, c, g1, g2, g3⟩ hlt => ?_⟩
  · rw [hg] at hk
    by_cases e : k = id
    · subst e; rw [if_pos rfl] at hk; cases hk; exact hA
    · rw [if_neg e] at hk
      exact It.grow (hm.ok k c hk) hw fun x hx1 hx2 => hm.dj k c id b hk h0 e x hx1 hx2
  · rw [hg] at hk
    by_cases e : k = id
    · subst e; rw [if_pos rfl] at hk; cases hk; exact fun x hx' => (hv x hx').mono hx.ah
    · rw [if_neg e] at hk
      exact fun x hx' => (hm.wf k c hk x hx').mono hx.ah
  · rw [hg] at hk hk'
    by_cases e : k = id
    · subst e
      rw [if_pos rfl] at hk; cases hk
      rw [if_neg (Ne.symm hne)] at hk'
      exact fun x hx1 hx2 => hm.dj k b k' c' h0 hk' hne x (hb' x hx1) hx2
    · rw [if_neg e] at hk
      by_cases e' : k' = id
      · subst e'
        rw [if_pos rfl] at hk'; cases hk'
        exact fun x hx1 hx2 => hm.dj k c k' b hk h0 hne x hx1 (hb' x hx2)
      · rw [if_neg e'] at hk'
        exact hm.dj k c k' c' hk hk' hne
  · rw [hg] at g2
    by_cases e : k = id
    · subst e; rw [if_pos rfl] at g2; cases g2
      exact ⟨k, b, g1, h0, hb' x g3⟩
    · rw [if_neg e] at g2
      exact ⟨k, c, g1, g2, g3⟩
theorem post_turn (hm : Mem θ h w) (h0 : h.get id = some b) (hi : hb.get id = none) (hg : ∀ j, h'.get j = if j = id then some b' else h.get j) (hw : Keeps (itA θ id b).bs w w')
    (hA : (itA θ id b').A w') (hb' : ∀ x ∈ (itA θ id b').bs, x ∈ (itA θ id b).bs) (hv : ∀ x ∈ b'.vals, x.Wf (AH θ h)) (hwf : v.Wf (AH θ h)) (hu : u = v.dec θ) : Post θ h hb w v h' u w' := ⟨_, aft_turn hm h0 hi hg hw hA hb' hv hwf hu⟩
/-- One behind the other. -/
theorem Aft.trans {v1 : AV} {u1 : Value} (A : Aft θ h hb w v1 h' u1 w' θ') (B : Aft θ' h' hb w' v h'' u w'' θ'') : Aft θ h hb w v h'' u w'' θ'' :=
  ⟨B.d, A.x.trans B.x, ⟨B.k.os.trans A.k.os, B.k.tape.trans A.k.tape, B.k.output.trans A.k.output, Nat.le_trans A.k.size B.k.size, fun x hx hn => (B.k.block x (Nat.lt_of_lt_of_le hx A.k.size) (fun hb => hn (A.o x hb hx))).trans (A.k.block x hx hn), Nat.le_trans A.k.drawn B.k.drawn⟩,
    B.m, B.wf, fun x hx hlt => A.o x (B.o x hx (Nat.lt_of_lt_of_le hlt A.k.size)) hlt⟩
end
end Go.PK

/-
  EV, part 10: operations that make and turn memory give what the machine says.
-/
namespace Go.PK
section
variable {P : Program} {t : TypeId} {dst : Option Tmp} {ty : TypeId} {pos : String} {af : Array Edge} {g : Option (Nat × Bool)}
theorem run_bslice {e : TypeId} {size len : Nat} {zs : List Value} {ps : Array (Nat × Operand)} {vs : List (Nat × Value)} {z : Value} (cs : List Value) (hu : ∀ w, (underlying t).run P w = .ok (.slice e) w) (hs : ∀ w, (sizeOf e).run P w = .ok size w)
    (hz : ∀ w, (zeroValue e).run P w = .ok z w) (hzc : z.cells = zs.toArray) (hsz : zs.length = size) (hpos : 0 < size) (hlen : len * size ≤ 16777216) {a : Act} {w : World}
    (hx : (ps.map fun (j, x) => (j, a.eval x)) = vs.toArray) (hf : fillL (fun j => some (j * size, size)) (reps zs len) vs = some cs) :
    ∃ w', (execOp a.eval ⟨dst, .buildSlice t len ps, ty, pos, af, g⟩).run P w = .ok (.value (.slice (some ⟨w.heap.size, 0, none⟩) len len)) w' ∧ Grow w w' ∧ (cel w.heap.size cs e).A w' := by
  refine ⟨w.alloc (.cells cs.toArray e), ?_, Keeps.alloc _ _ _, cel_new⟩
  have h2 := fill_eq (fun j => some (j * size, size)) vs (reps zs len) cs hf
  have hrl : ∀ n, (reps zs n).length = n * size := by
    intro n; induction n with
    | zero => simp [reps]
    | succ n ih => simp [reps, ih, hsz, Nat.add_mul]; omega
  have hrg : ∀ n j, j < n * size → (reps zs n)[j]? = zs[j % size]? := by
    intro n; induction n with
    | zero => intro j hj; simp at hj
    | succ n ih =>
      intro j hj
      simp only [reps, List.getElem?_append, hsz]
      by_cases hjs : j < size
      · simp [hjs, Nat.mod_eq_of_lt hjs]
      · have hge : size ≤ j := by omega
        simp only [hjs, if_false]
        rw [ih (j - size) (by rw [Nat.add_mul] at hj; omega)]
        rw [Nat.mod_eq_sub_mod hge]
  have hlen' : ¬ (len * size > 2 ^ 24) := by omega
  show Sem.run P (do pure (Next.value (← Instr.buildSlice t len (ps.map fun (j, x) => (j, a.eval x))))) w = _
  rw [hx]
  by_cases h0 : len * size = 0
  · have hrn : reps zs len = [] := List.eq_nil_of_length_eq_zero (by rw [hrl, h0])
    rw [hrn] at h2
    simp [Instr.buildSlice, hu, hs, h0, newRow, h2, show Array.range 0 = #[] from rfl]
  · have hzz : ((Array.range (len * size)).map fun j => zs.toArray[j % zs.length]!) = (reps zs len).toArray := by
      apply Array.ext'
      apply List.ext_getElem?
      intro j
      simp only [Array.toList_map, Array.toList_range, List.getElem?_map]
      by_cases hj : j < len * size
      · have hjm : j % zs.length < zs.length := by rw [hsz]; exact Nat.mod_lt _ hpos
        have hr := hrg len j hj
        rw [← hsz] at hr
        simp [hj, hr, hjm]
      · have hj' : (reps zs len)[j]? = none := by rw [List.getElem?_eq_none]; rw [hrl]; omega
        simp [hj, hj']
    have hl2 : (len * size > 2 ^ 24) = False := by simpa using hlen'
    simp only [Instr.buildSlice, Sem.run_bind, hu, hs, hz, Result.andThen_ok, hl2, if_false, h0, Sem.run_pure, newRow, hzc, List.size_toArray, hzz, h2]
    simp
end
section
variable {P : Program} {θ : Vl} {h h' hb : Heap} {w : World} {id : Nat} {v : AV} {nt : Nat} {a : Act} {env : EnvT} {t : TypeId} {x y z : Operand}
/-- The operation does this, and it keeps what may not be turned. -/
def Ok (P : Program) (a : Act) (op : Op) (θ : Vl) (h hb : Heap) (v : AV) (h' : Heap) : Prop :=
  (∀ (dst : Option Tmp) (ty : TypeId) (pos : String) (af : Array Edge) (g : Option (Nat × Bool)) (w : World), Mem θ h w → does P ⟨dst, op, ty, pos, af, g⟩ a w (Post θ h hb w v h')) ∧ (Inv hb h → Inv hb h')
theorem post_cells {l : List AV} {T : TypeId} {u : Value} (hm : Mem θ h w) (h0 : h.get id = none) (hg : ∀ j, h'.get j = if j = id then some (.cells T l) else h.get j) (hv : ∀ x ∈ l, x.Wf (AH θ h))
    (hwf : v.Wf (AH (upd θ id (w.heap.size, 0)) h')) (hu : u = v.dec (upd θ id (w.heap.size, 0))) : Post θ h hb w v h' u (w.alloc (.cells (l.map (AV.dec θ)).toArray T)) := by
  refine post_new hm h0 hg _ (Keeps.alloc _ _ _) ?_ ?_ hv hwf hu
  · show (cel (upd θ id (w.heap.size, 0) id).1 (l.map (AV.dec (upd θ id (w.heap.size, 0)))) T).A _
    rw [decs_ext (ext_new (θ := θ) h0 hg).th hv, upd_at]
    exact cel_new
  · intro x hx
    have hx : x ∈ (cel (upd θ id (w.heap.size, 0) id).1 (l.map (AV.dec (upd θ id (w.heap.size, 0)))) T).bs := hx
    rw [upd_at] at hx
    have : x = w.heap.size := by simpa [cel] using hx
    omega
theorem got {b : Blk} (hg : ∀ j, h'.get j = if j = id then some b else h.get j) : (h'.get id).isSome = true := by rw [hg, if_pos rfl]; rfl
theorem zeroA_inv {l : List AV} (hz : zeroA P t = some l) : ∃ i z, P.info? t = some i ∧ i.zero = some z ∧ l = (AV.val z).cells := by
  unfold zeroA at hz
  split at hz
  · next i hi =>
    split at hz
    · next z h2 => cases hz; exact ⟨i, z, hi, h2, rfl⟩
    · cases hz
  · cases hz
theorem val_cells (z : Value) : ((AV.val z).cells.map (AV.dec θ)).toArray = z.cells := (AV.cells_dec θ (.val z)).symm
theorem ok_alloc (hv : evAlloc P t id h = some (v, h')) : Ok P a (.alloc t) θ h hb v h' := by
  unfold evAlloc at hv
  split at hv
  · next l hl =>
    obtain ⟨i, z, hi, hz, rfl⟩ := zeroA_inv hl
    obtain ⟨h0, rfl, hg⟩ := newB_inv hv
    refine ⟨fun dst ty pos af g w hm => ?_, fun hI => inv_new hI h0 hg⟩
    have key : (execOp a.eval ⟨dst, .alloc t, ty, pos, af, g⟩).run P w = .ok (.value (.pointer (some ⟨w.heap.size, 0, none⟩))) (w.alloc (.cells z.cells t)) := by
      simp [execOp, Instr.alloc, run_zero' hi hz, newVar, newRow]
    unfold does
    rw [key, ← val_cells (θ := θ) z]
    exact post_cells hm h0 hg (AV.cells_wf (v := .val z) trivial) ⟨got hg, Nat.zero_le _⟩ (by simp [AV.dec, upd_at])
  · cases hv
theorem ok_box (ha : AgT θ nt a env) (hw : WfE (AH θ h) env) (hv : evBox t x env id h = some (v, h')) : Ok P a (.box t x) θ h hb v h' := by
  unfold evBox at hv
  split at hv
  · next u hx =>
    obtain ⟨h0, rfl, hg⟩ := newB_inv hv
    refine ⟨fun dst ty pos af g w hm => ?_, fun hI => inv_new hI h0 hg⟩
    have key : (execOp a.eval ⟨dst, .box t x, ty, pos, af, g⟩).run P w = .ok (.value (.pointer (some ⟨w.heap.size, 0, none⟩))) (w.alloc (.cells (u.dec θ).cells t)) := by
      simp [execOp, ha.ev hx, Instr.box, newVar, newRow]
    unfold does
    rw [key, AV.cells_dec]
    exact post_cells hm h0 hg (AV.cells_wf (evO_wf hw hx)) ⟨got hg, Nat.zero_le _⟩ (by simp [AV.dec, upd_at])
  · cases hv
theorem repA_dec {l : List AV} : ∀ n, (repA l n).map (AV.dec θ) = reps (l.map (AV.dec θ)) n
  | 0 => rfl
  | n + 1 => by simp [repA, reps, repA_dec n]
theorem repA_mem {l : List AV} {u : AV} : ∀ {n}, u ∈ repA l n → u ∈ l
  | n + 1, hu => by
    rcases List.mem_append.1 (show u ∈ l ++ repA l n from hu) with hu | hu
    · exact hu
    · exact repA_mem hu
theorem ok_bslice {ps : Array (Nat × Operand)} {len : Nat} (ha : AgT θ nt a env) (hw : WfE (AH θ h) env) (hv : evBuildS P t len ps.toList env id h = some (v, h')) : Ok P a (.buildSlice t len ps) θ h hb v h' := by
  unfold evBuildS at hv
  split at hv
  · next e hd =>
    split at hv
    · next i zl vs hi hzl hvs =>
      split at hv
      · next cs hcs =>
        cases hc : (Nat.blt 0 i.size && Nat.ble (len * i.size) 16777216 && Nat.beq zl.length i.size) with
        | false => rw [hc] at hv; cases hv
        | true =>
          rw [hc] at hv
          simp only [Bool.and_eq_true] at hc
          obtain ⟨⟨hc1, hc2⟩, hc3⟩ := hc
          have hc1 : 0 < i.size := Nat.le_of_ble_eq_true hc1
          have hc2 := Nat.le_of_ble_eq_true hc2
          have hc3 := Nat.eq_of_beq_eq_true hc3
          obtain ⟨i', z, hi', hz, rfl⟩ := zeroA_inv hzl
          rw [hi] at hi'
          cases hi'
          obtain ⟨h0, rfl, hg⟩ := newB_inv hv
          refine ⟨fun dst ty pos af g w hm => ?_, fun hI => inv_new hI h0 hg⟩
          have hf := fillA_dec (θ := θ) hcs
          rw [repA_dec] at hf
          have hx := map_partsA ha hvs
          obtain ⟨w', r1, r2, r3⟩ := run_bslice (dst := dst) (ty := ty) (pos := pos) (af := af) (g := g) (w := w) (cs.map (AV.dec θ)) (run_underlying hd) (run_sizeOf' hi) (run_zero' hi hz) (val_cells (θ := θ) z).symm (by rw [List.length_map]; exact hc3) hc1 hc2 hx hf
          unfold does
          rw [r1]
          have hcw : ∀ u ∈ cs, u.Wf (AH θ h) := fillA_wf hcs (fun u hu => AV.cells_wf (v := .val z) trivial u (repA_mem hu)) (partsA_wf hw hvs)
          refine post_new hm h0 hg (w.heap.size, 0) r2 ?_ ?_ hcw ⟨got hg, Nat.zero_le _⟩ (by simp [AV.dec, upd_at])
          · show (cel (upd θ id (w.heap.size, 0) id).1 (cs.map (AV.dec (upd θ id (w.heap.size, 0)))) e).A _
            rw [decs_ext (ext_new (θ := θ) h0 hg).th hcw, upd_at]
            exact r3
          · intro q hq
            have hq : q ∈ (cel (upd θ id (w.heap.size, 0) id).1 (cs.map (AV.dec (upd θ id (w.heap.size, 0)))) e).bs := hq
            rw [upd_at] at hq
            have : q = w.heap.size := by simpa [cel] using hq
            omega
      · cases hv
    · cases hv
  · cases hv
theorem run_mslice {e : TypeId} {ii : TypeInfo} {sz len : Nat} {zs : List Value} {z' : Value} {k k' : IntKind} {dst : Option Tmp} {ty : TypeId} {pos : String} {af : Array Edge} {g : Option (Nat × Bool)} (hu : ∀ w, (underlying t).run P w = .ok (.slice e) w) (hs : ∀ w, (sizeOf e).run P w = .ok sz w) (hti : P.info? e = some ii)
    (hz : ∀ w, (zeroValue e).run P w = .ok z' w) (hzc : z'.cells = zs.toArray) (hsz : zs.length = sz) (hpos : 0 < sz) (hlen : 0 < len) (hb : len * ii.bytes ≤ 1000000) (hl2 : len ≤ 1000000) (hx : a.eval x = .int k (len : Int)) (hy : a.eval y = .int k' (len : Int)) (w : World) :
    (execOp a.eval ⟨dst, .makeSlice t x y, ty, pos, af, g⟩).run P w = .ok (.value (.slice (some ⟨w.heap.size, 0, none⟩) len len)) (w.alloc (.cells (reps zs len).toArray e)) := by
  show Sem.run P (do pure (Next.value (← Instr.makeSlice t (a.eval x) (a.eval y)))) w = _
  rw [hx, hy]
  have hw1 : IntKind.i64.wrap (len : Int) = len := IntWalk.i64_in _ (by omega)
  have hti' : ∀ w, (typeInfo e).run P w = .ok ii w := fun w => by simp [typeInfo, hti]
  have h0 : ¬ len * sz = 0 := Nat.mul_ne_zero (by omega) (by omega)
  have hzz := zeros_reps (n := len) hsz hpos
  have e1 : ¬ ((len : Int) < 0) := by omega
  have e2 : ¬ ((ii.bytes : Int) * (len : Int) > 281474976710656) := by
    have : (ii.bytes : Int) * (len : Int) = ((len * ii.bytes : Nat) : Int) := by rw [Int.mul_comm]; simp
    omega
  simp only [Instr.makeSlice, Sem.run_bind, hu, asInt, hti', Result.andThen_ok]
  simp [e1, e2, h0, hw1, askRoom, newRow, hs, hz, hzc, asIntOf]
  rw [← hzz]; simp
theorem ok_mslice (ha : AgT θ nt a env) (hv : evMakeS P t x y env id h = some (v, h')) : Ok P a (.makeSlice t x y) θ h hb v h' := by
  unfold evMakeS at hv
  split at hv
  · next e k n k' m hd hx hy =>
    split at hv
    · next i zl hi hzl =>
      cases hc : (Nat.beq n m && (Nat.blt 0 n && (Nat.blt 0 i.size && (Nat.ble n 1000000 && (Nat.ble (n * i.bytes) 1000000 && Nat.beq zl.length i.size))))) with
      | false => rw [hc] at hv; cases hv
      | true =>
        rw [hc] at hv
        simp only [Bool.and_eq_true] at hc
        obtain ⟨c1, c2, c3, c4, c5, c6⟩ := hc
        have c1 := Nat.eq_of_beq_eq_true c1
        subst c1
        have c2 : 0 < n := Nat.le_of_ble_eq_true c2
        have c3 : 0 < i.size := Nat.le_of_ble_eq_true c3
        have c4 := Nat.le_of_ble_eq_true c4
        have c5 := Nat.le_of_ble_eq_true c5
        have c6 := Nat.eq_of_beq_eq_true c6
        obtain ⟨i', z, hi', hz, rfl⟩ := zeroA_inv hzl
        rw [hi] at hi'
        cases hi'
        obtain ⟨h0, rfl, hg⟩ := newB_inv hv
        refine ⟨fun dst ty pos af g w hm => ?_, fun hI => inv_new hI h0 hg⟩
        have hx := ha.ev hx
        have hy := ha.ev hy
        simp only [AV.dec] at hx hy
        have r := run_mslice (dst := dst) (ty := ty) (pos := pos) (af := af) (g := g) (run_underlying hd) (run_sizeOf' hi) hi (run_zero' hi hz) (val_cells (θ := θ) z).symm (by rw [List.length_map]; exact c6) c3 c2 c5 c4 hx hy w
        unfold does
        rw [r, ← repA_dec]
        exact post_cells hm h0 hg (fun u hu => AV.cells_wf (v := .val z) trivial u (repA_mem hu)) ⟨got hg, Nat.zero_le _⟩ (by simp [AV.dec, upd_at])
    · cases hv
  · cases hv
end
end Go.PK

/-
  EV, part 11: reading and storing.
-/
namespace Go.PK
section
variable {P : Program} {θ : Vl} {h h' hb : Heap} {w : World} {id off : Nat} {v : AV} {nt : Nat} {a : Act} {env : EnvT} {t : TypeId} {x y z : Operand} {b : Blk}
theorem takeL_eq : ∀ {l : List AV} {n : Nat} {r : List AV}, takeL l n = some r → r = l.take n ∧ r.length = n
  | l, 0, r, h => by
    have : r = [] := by cases l <;> exact (Option.some.inj h).symm
    subst this; simp
  | [], n + 1, r, h => by cases h
  | x :: l, n + 1, r, h => by
    obtain ⟨q, hq, rfl⟩ := Option.map_eq_some_iff.1 (show (takeL l n).map (x :: ·) = some r from h)
    obtain ⟨h1, h2⟩ := takeL_eq hq
    exact ⟨by rw [List.take_succ_cons, ← h1], by rw [List.length_cons, h2]⟩
theorem row_cell {l : List AV} (hr : b.row = some l) (hA : (itA θ id b).A w) {j : Nat} {u : AV} (hj : l[j]? = some u) : w.cell? ⟨(θ id).1, j, none⟩ = some (u.dec θ) := by
  cases b with
  | cells T l' =>
    cases hr
    have hA : (cel (θ id).1 (l.map (AV.dec θ)) T).A w := hA
    rw [cell_of_cel hA, List.getElem?_map, hj]; rfl
  | own T sz n l' =>
    cases hr
    have hA : (own (some (θ id).1) (θ id).2 T sz n (l.map (AV.dec θ))).A w := hA
    have := (own_sls hA).2.2 j (u.dec θ) (by rw [List.getElem?_map, hj]; rfl)
    rw [add_none, Nat.zero_add] at this
    exact this
  | _ => cases hr
theorem row_vals {l : List AV} (hr : b.row = some l) : b.vals = l := by
  cases b <;> cases hr <;> rfl
theorem row_inv {l : List AV} (hb : (h.get id).bind Blk.row = some l) : ∃ b, h.get id = some b ∧ b.row = some l := by
  obtain ⟨b, h1, h2⟩ := Option.bind_eq_some_iff.1 hb
  exact ⟨b, h1, h2⟩
theorem loadA_at (hm : ∀ b, h.get id = some b → (itA θ id b).A w) (hv : loadA P t id off h = some v) : (loadVar t ⟨(θ id).1, off, none⟩).run P w = .ok (v.dec θ) w := by
  unfold loadA at hv
  split at hv
  · next l d i hl hd hi =>
    obtain ⟨b, hb, hr⟩ := row_inv hl
    have hA := hm b hb
    have hag := run_isAgg' hd
    cases hc : aggD d with
    | true =>
      rw [hc] at hv hag
      obtain ⟨r, hr2, rfl⟩ := Option.map_eq_some_iff.1 hv
      obtain ⟨e1, e2⟩ := takeL_eq hr2
      have := run_isAggT (T := t) (a := ⟨(θ id).1, off, none⟩) (w := w) (vs := r.map (AV.dec θ)) hag (by rw [List.length_map, e2]; exact run_sizeOf' hi) (fun j u hj => by
        rw [List.getElem?_map] at hj
        obtain ⟨q, hq, rfl⟩ := Option.map_eq_some_iff.1 hj
        rw [add_none]
        refine row_cell hr hA ?_
        rw [e1] at hq
        have hlt : j < i.size := by
          have := (List.getElem?_eq_some_iff.1 hq).1
          rw [List.length_take] at this; omega
        rw [List.getElem?_take_of_lt hlt, List.getElem?_drop] at hq
        exact hq)
      rw [this, AV.dec, decL_map]
    | false =>
      rw [hc] at hv hag
      exact run_isAggF hag (row_cell hr hA hv)
  · cases hv
theorem loadA_ok (hm : Mem θ h w) (hv : loadA P t id off h = some v) : (loadVar t ⟨(θ id).1, off, none⟩).run P w = .ok (v.dec θ) w := loadA_at (fun b hb => hm.ok id b hb) hv
theorem loadA_wf (hm : ∀ id b, h.get id = some b → ∀ x ∈ b.vals, x.Wf (AH θ h)) (hv : loadA P t id off h = some v) : v.Wf (AH θ h) := by
  unfold loadA at hv
  split at hv
  · next l d i hl hd hi =>
    obtain ⟨b, hb, hr⟩ := row_inv hl
    have hw := hm id b hb
    rw [row_vals hr] at hw
    cases hc : aggD d with
    | true =>
      rw [hc] at hv
      obtain ⟨r, hr2, rfl⟩ := Option.map_eq_some_iff.1 hv
      obtain ⟨e1, e2⟩ := takeL_eq hr2
      exact wfL_iff.2 fun x hx => hw x (by rw [e1] at hx; exact List.mem_of_mem_drop (List.mem_of_mem_take hx))
    | false =>
      rw [hc] at hv
      exact hw v (List.mem_of_getElem? hv)
  · cases hv
/-- What an operation yields that reads memory alone. -/
def ExM (P : Program) (a : Act) (op : Op) (θ : Vl) (h : Heap) (v : AV) : Prop := ∀ (dst : Option Tmp) (ty : TypeId) (pos : String) (af : Array Edge) (g : Option (Nat × Bool)) (w : World), Mem θ h w → (execOp a.eval ⟨dst, op, ty, pos, af, g⟩).run P w = .ok (.value (v.dec θ)) w
theorem ExM.ok {op : Op} (hx : ExM P a op θ h v) (hw : v.Wf (AH θ h)) : Ok P a op θ h hb v h := ⟨fun dst ty pos af g w hm => by
  unfold does
  rw [hx dst ty pos af g w hm]
  exact .same hm hw, fun h => h⟩
theorem load_ok (ha : AgT θ nt a env) (hv : evLoad P t x env h = some v) : ExM P a (.load t x) θ h v := by
  unfold evLoad at hv
  split at hv
  · next id off hx =>
    intro dst ty pos af g w hm
    have hx := ha.ev hx
    simp only [AV.dec] at hx
    simp [execOp, hx, Instr.loadAt, Instr.sureAddr, loadA_ok hm hv]
  · cases hv
theorem load_wf (hm : ∀ id b, h.get id = some b → ∀ x ∈ b.vals, x.Wf (AH θ h)) (hv : evLoad P t x env h = some v) : v.Wf (AH θ h) := by
  unfold evLoad at hv
  split at hv
  · exact loadA_wf hm hv
  · cases hv
theorem all_one {l : List AV} (hl : l.all AV.isOne = true) : ∀ u ∈ l.map (AV.dec θ), u.oneCell' = true := fun u hu => by
  obtain ⟨q, hq, rfl⟩ := List.mem_map.1 hu
  exact AV.isOne_dec (List.all_eq_true.1 hl q hq) θ
theorem splA_wf {A : Nat → Nat → Prop} {cs vs : List AV} {n : Nat} (h1 : ∀ x ∈ cs, x.Wf A) (h2 : ∀ x ∈ vs, x.Wf A) : ∀ x ∈ splA cs n vs, x.Wf A := fun x hx => (splA_mem hx).elim (h1 x) (h2 x)
theorem store_ok (ha : AgT θ nt a env) (hw : WfE (AH θ h) env) (hmw : ∀ id b, h.get id = some b → ∀ x ∈ b.vals, x.Wf (AH θ h)) (hv : evStore P hb t x y env h = some (v, h')) : Ok P a (.store t x y) θ h hb v h' := by
  unfold evStore at hv
  split at hv
  · next id off u i hx hy hi =>
    cases hc : (Nat.beq u.cells.length i.size && u.cells.all AV.isOne) with
    | false => rw [hc] at hv; cases hv
    | true =>
      rw [hc] at hv
      rw [Bool.and_eq_true] at hc
      have c1 := Nat.eq_of_beq_eq_true hc.1
      have c2 := all_one (θ := θ) hc.2
      have hv : (match h.get id with
        | some (.cells T l) => bif Nat.ble (off + i.size) l.length then turnB hb id (.cells T (splA l off u.cells)) (.val undef) h else none
        | some (.own T sz n l) => bif Nat.ble (off + i.size) l.length then turnB hb id (.own T sz n (splA l off u.cells)) (.val undef) h else none
        | _ => none : Eff) = some (v, h') := hv
      have hxe := ha.ev hx
      have hye := ha.ev hy
      simp only [AV.dec] at hxe
      have huc : (u.dec θ).cells = (u.cells.map (AV.dec θ)).toArray := AV.cells_dec θ u
      have hs : ∀ w, (sizeOf t).run P w = .ok (u.cells.map (AV.dec θ)).length w := fun w => by rw [List.length_map, c1]; exact run_sizeOf' hi w
      have huw : ∀ q ∈ u.cells, q.Wf (AH θ h) := AV.cells_wf (evO_wf hw hy)
      split at hv
      · next T l hg0 =>
        cases hl : Nat.ble (off + i.size) l.length with
        | false => rw [hl] at hv; cases hv
        | true =>
          rw [hl] at hv
          have hl : off + i.size ≤ l.length := Nat.le_of_ble_eq_true hl
          obtain ⟨hb0, rfl, hg⟩ := turnB_inv hv
          refine ⟨fun dst ty pos af g w hm => ?_, fun hI => inv_turn hI hb0 hg⟩
          have hA : w.heap[(θ id).1]? = some (.cells (l.map (AV.dec θ)).toArray T (0, 0)) := hm.ok id _ hg0
          have hst := run_storeCells_at P (θ id).1 off T (u.cells.map (AV.dec θ)) 0 (l.map (AV.dec θ)).toArray w hA (by simp; omega) c2
          simp only [Nat.add_zero] at hst
          have key : (execOp a.eval ⟨dst, .store t x y, ty, pos, af, g⟩).run P w = .ok .skip (w.setRow (θ id).1 ((splA l off u.cells).map (AV.dec θ)).toArray) := by
            rw [splA_dec, spl_eq _ off _ (by simp; omega)]
            simp [execOp, hxe, hye, Instr.storeAt, Instr.sureAddr, storeVar, hs, huc, hst]
          unfold does
          rw [key]
          exact post_turn hm hg0 hb0 hg Keeps.setRow (setRow_heap w _ _ _ T _ hA) (fun x hx => hx) (splA_wf (hmw id _ hg0) huw) trivial rfl
      · next T sz n l hg0 =>
        cases hl : Nat.ble (off + i.size) l.length with
        | false => rw [hl] at hv; cases hv
        | true =>
          rw [hl] at hv
          have hl : off + i.size ≤ l.length := Nat.le_of_ble_eq_true hl
          obtain ⟨hb0, rfl, hg⟩ := turnB_inv hv
          refine ⟨fun dst ty pos af g w hm => ?_, fun hI => inv_turn hI hb0 hg⟩
          have hA : (own (some (θ id).1) (θ id).2 T sz n (l.map (AV.dec θ))).A w := hm.ok id _ hg0
          obtain ⟨q1, q2, q3, rest, ⟨f, hA, hfz⟩, q5⟩ := hA
          have hst := run_storeCells_atF (P := P) (θ id).1 off T f (u.cells.map (AV.dec θ)) 0 (l.map (AV.dec θ) ++ rest).toArray w (hfz.imp (fun h => h) (fun h => by rw [List.size_toArray, q5]; exact h)) hA (by simp; omega) c2
          have hl' : off + (u.cells.map (AV.dec θ)).length ≤ (l.map (AV.dec θ)).length := by simp; omega
          have e2 : (l.map (AV.dec θ) ++ rest).take off ++ u.cells.map (AV.dec θ) ++ (l.map (AV.dec θ) ++ rest).drop (off + (u.cells.map (AV.dec θ)).length) = spl (l.map (AV.dec θ)) off (u.cells.map (AV.dec θ)) ++ rest := by
            rw [spl_eq _ _ _ hl', List.take_append_of_le_length (by omega), List.drop_append_of_le_length hl', ← List.append_assoc]
          simp only [Nat.add_zero] at hst
          rw [e2] at hst
          have key : (execOp a.eval ⟨dst, .store t x y, ty, pos, af, g⟩).run P w = .ok .skip (w.setRow (θ id).1 (spl (l.map (AV.dec θ)) off (u.cells.map (AV.dec θ)) ++ rest).toArray) := by
            simp [execOp, hxe, hye, Instr.storeAt, Instr.sureAddr, storeVar, hs, huc, hst]
          unfold does
          rw [key]
          refine post_turn hm hg0 hb0 hg Keeps.setRow ?_ (fun x hx => hx) (splA_wf (hmw id _ hg0) huw) trivial rfl
          show (own (some (θ id).1) (θ id).2 T sz n ((splA l off u.cells).map (AV.dec θ))).A _
          rw [splA_dec]
          refine ⟨by rw [spl_length]; exact q1, q2, q3, rest, ⟨f, setRow_heap w _ _ _ T _ hA, hfz⟩, ?_⟩
          rw [List.length_append, spl_length, ← List.length_append]; exact q5
      · cases hv
  · cases hv
end
end Go.PK

/-
  EV, part 12: appending.
-/
namespace Go.PK
section
variable {P : Program} {θ : Vl} {h h' hb : Heap} {w w' : World} {id id0 off : Nat} {v : AV} {nt : Nat} {a : Act} {env : EnvT} {t : TypeId} {x y z : Operand} {b b0 : Blk} {u : Value}
/-- A block is no more used, and one has come, in its place or elsewhere. -/
theorem post_app (hm : Mem θ h w) (h0 : h.get id0 = some b0) (hi : hb.get id0 = none) (hn : h.get id = none) (hg : ∀ j, h'.get j = if j = id then some b else if j = id0 then some .dead else h.get j) (p : Nat × Nat) (hw : Keeps (itA θ id0 b0).bs w w')
    (hA : (itA (upd θ id p) id b).A w') (hbs : ∀ x ∈ (itA (upd θ id p) id b).bs, x ∈ (itA θ id0 b0).bs ∨ w.heap.size ≤ x) (hv : ∀ x ∈ b.vals, x.Wf (AH θ h)) (hwf : v.Wf (AH (upd θ id p) h')) (hu : u = v.dec (upd θ id p)) : Post θ h hb w v h' u w' := by
  have hne0 : id0 ≠ id := fun e => by subst e; rw [h0] at hn; cases hn
  have hx : Ext θ h (upd θ id p) h' := ⟨fun k hk => by
    have hne : k ≠ id := fun e => by subst e; rw [hn] at hk; cases hk
    refine ⟨upd_ne hne, ?_⟩
    rw [hg, if_neg hne]
    split
    · rfl
    · exact hk⟩
  have it : ∀ k c, h.get k = some c → itA (upd θ id p) k c = itA θ k c := fun k c hk => itA_ext hx.th (upd_ne fun e => by subst e; rw [hk] at hn; cases hn) (hm.wf k c hk)
  -- what stands at a place
  have cs : ∀ k c, h'.get k = some c → (k = id ∧ c = b) ∨ (k ≠ id ∧ k = id0 ∧ c = .dead) ∨ (k ≠ id ∧ k ≠ id0 ∧ h.get k = some c) := fun k c hk => by
    rw [hg] at hk
    by_cases e : k = id
    · rw [if_pos e] at hk; exact .inl ⟨e, (Option.some.inj hk).symm⟩
    · rw [if_neg e] at hk
      by_cases e0 : k = id0
      · rw [if_pos e0] at hk; exact .inr (.inl ⟨e, e0, (Option.some.inj hk).symm⟩)
      · rw [if_neg e0] at hk; exact .inr (.inr ⟨e, e0, hk⟩)
  have far : ∀ k c, k ≠ id0 → h.get k = some c → ∀ x ∈ (itA (upd θ id p) id b).bs, x ∉ (itA θ k c).bs := fun k c e hk x h1 h2 => by
    rcases hbs x h1 with h3 | h3
    · exact hm.dj k c id0 b0 hk h0 e x h2 h3
    · have := hm.lt hk x h2; omega
  refine ⟨_, hu, hx, ⟨hw.os, hw.tape, hw.output, hw.size, fun x hlt hnx => hw.block x hlt fun hxb => hnx ⟨id0, b0, hi, h0, hxb⟩, hw.drawn⟩, ⟨fun k c hk => ?_, fun k c hk => ?_, fun k c k' c' hk hk' hne => ?_⟩, hwf, fun x ⟨k, c, g1, g2, g3⟩ hlt => ?_⟩
  · rcases cs k c hk with ⟨rfl, rfl⟩ | ⟨_, rfl, rfl⟩ | ⟨_, e0, hk⟩
    · exact hA
    · exact trivial
    · rw [it k c hk]
      exact It.grow (hm.ok k c hk) hw fun x h1 h2 => hm.dj k c id0 b0 hk h0 e0 x h1 h2
  · rcases cs k c hk with ⟨rfl, rfl⟩ | ⟨_, rfl, rfl⟩ | ⟨_, e0, hk⟩
    · exact fun x hx' => (hv x hx').mono hx.ah
    · exact fun x hx' => by cases hx'
    · exact fun x hx' => (hm.wf k c hk x hx').mono hx.ah
  · rcases cs k c hk with ⟨rfl, rfl⟩ | ⟨_, rfl, rfl⟩ | ⟨e1, e0, hk⟩
    · rcases cs k' c' hk' with ⟨rfl, rfl⟩ | ⟨_, rfl, rfl⟩ | ⟨_, e0, hk'⟩
      · exact absurd rfl hne
      · exact fun x _ h2 => by cases h2
      · rw [it k' c' hk']; exact far k' c' e0 hk'
    · exact fun x h1 => by cases h1
    · rcases cs k' c' hk' with ⟨rfl, rfl⟩ | ⟨_, rfl, rfl⟩ | ⟨_, e0', hk'⟩
      · rw [it k c hk]; exact fun x h1 h2 => far k c e0 hk x h2 h1
      · exact fun x _ h2 => by cases h2
      · rw [it k c hk, it k' c' hk']; exact hm.dj k c k' c' hk hk' hne
  · rcases cs k c g2 with ⟨rfl, rfl⟩ | ⟨_, rfl, rfl⟩ | ⟨_, e0, hk⟩
    · rcases hbs x g3 with h3 | h3
      · exact ⟨id0, b0, hi, h0, h3⟩
      · omega
    · cases g3
    · rw [it k c hk] at g3
      exact ⟨k, c, g1, hk, g3⟩
/-- What a slice shows, in memory. -/
theorem rowA_ok {sz n : Nat} {xs : List AV} {q : AV} (hm : Mem θ h w) (hr : rowA sz q h = some (n, xs)) : ∃ p c2, q.dec θ = .slice p n c2 ∧ xs.length = n * sz ∧ (p = none → n = 0) ∧ (∀ a, p = some a → ∀ j u, (xs.map (AV.dec θ))[j]? = some u → w.cell? (a.add j) = some u) := by
  unfold rowA at hr
  split at hr
  · next id off len k c =>
    split at hr
    · next l hl =>
      obtain ⟨b, hb, hrow⟩ := row_inv hl
      obtain ⟨r, hr2, h2⟩ := Option.map_eq_some_iff.1 hr
      cases h2
      obtain ⟨e1, e2⟩ := takeL_eq hr2
      refine ⟨_, _, rfl, e2, (fun h => by cases h), fun a ha j u hj => ?_⟩
      cases ha
      rw [List.getElem?_map] at hj
      obtain ⟨q, hq, rfl⟩ := Option.map_eq_some_iff.1 hj
      rw [add_none]
      refine row_cell hrow (hm.ok id b hb) ?_
      rw [e1] at hq
      have hlt : j < n * sz := by
        have := (List.getElem?_eq_some_iff.1 hq).1
        rw [List.length_take] at this; omega
      rw [List.getElem?_take_of_lt hlt, List.getElem?_drop] at hq
      exact hq
    · cases hr
  · cases hr
    exact ⟨_, _, rfl, by simp, fun _ => rfl, fun a _ j u hj => by simp at hj⟩
  · next p c =>
    cases hr
    exact ⟨_, _, rfl, by simp, fun _ => rfl, fun a _ j u hj => by simp at hj⟩
  · cases hr
theorem rowA_wf {sz n : Nat} {xs : List AV} {q : AV} (hm : ∀ id b, h.get id = some b → ∀ x ∈ b.vals, x.Wf (AH θ h)) (hr : rowA sz q h = some (n, xs)) : ∀ x ∈ xs, x.Wf (AH θ h) := by
  unfold rowA at hr
  split at hr
  · split at hr
    · next l hl =>
      obtain ⟨b, hb, hrow⟩ := row_inv hl
      obtain ⟨r, hr2, h2⟩ := Option.map_eq_some_iff.1 hr
      cases h2
      obtain ⟨e1, e2⟩ := takeL_eq hr2
      have hw := hm _ b hb
      rw [row_vals hrow] at hw
      exact fun x hx => hw x (by rw [e1] at hx; exact List.mem_of_mem_drop (List.mem_of_mem_take hx))
    · cases hr
  · cases hr; exact fun x hx => by cases hx
  · cases hr; exact fun x hx => by cases hx
  · cases hr
theorem own_less {b cap sz n0 n : Nat} {e : TypeId} {xs : List Value} (hA : (own (some b) cap e sz n0 xs).A w) (hn : n ≤ n0) : (own (some b) cap e sz n (xs.take (n * sz))).A w := by
  obtain ⟨h1, h2, h3, rest, ⟨f, h4, h6⟩, h5⟩ := hA
  refine ⟨by rw [List.length_take, h1]; exact Nat.min_eq_left (Nat.mul_le_mul_right _ hn), Nat.le_trans hn h2, h3, xs.drop (n * sz) ++ rest, ⟨f, ?_, h6⟩, ?_⟩
  · rw [← List.append_assoc, List.take_append_drop]; exact h4
  · rw [← List.append_assoc, List.take_append_drop]; exact h5
theorem app_get {B : Blk} {h1 : Heap} (hg1 : ∀ j, h1.get j = if j = id0 then some .dead else h.get j) (hg : ∀ j, h'.get j = if j = id then some B else h1.get j) : ∀ j, h'.get j = if j = id then some B else if j = id0 then some .dead else h.get j := fun j => by rw [hg, hg1]
theorem zeroOk_el {e : TypeId} {i : TypeInfo} (hd : P.underlying t = some (.slice e)) (hi : P.info? e = some i) (h0 : 0 < i.size) (hz : zeroOk P e i.size = true) : ElemT P t e i.size i.bytes := by
  unfold zeroOk at hz
  split at hz
  · next l hl =>
    obtain ⟨i', z, hi', hz', rfl⟩ := zeroA_inv hl
    rw [hi] at hi'
    cases hi'
    refine ⟨hd, ⟨i, z, hi, hz', rfl, rfl, ?_⟩, h0⟩
    rw [← val_cells (θ := fun _ => (0, 0)) z]
    simpa using hz
  · cases hz
end
end Go.PK

/-
  EV, part 13: appending, whole.
-/
namespace Go.PK
section
variable {P : Program} {θ : Vl} {h h' hb : Heap} {id : Nat} {v : AV} {nt : Nat} {a : Act} {env : EnvT} {t : TypeId} {x y : Operand}
/-- An own slice is consumed, or nothing is; a new one stands for what comes. -/
theorem app_own {e : TypeId} {sz bytes n m cap : Nat} {xs ys : List AV} {id0 : Nat} {b0 : Blk} {c2 : Nat} {p2 : Option Addr} {h1 : Heap} (T : ElemT P t e sz bytes) (ha1 : a.eval x = slO (some (θ id0).1) n cap) (ha2 : a.eval y = .slice p2 m c2)
    (h0 : h.get id0 = some b0) (hb0 : hb.get id0 = none) (hg1 : ∀ j, h1.get j = if j = id0 then some .dead else h.get j) (hn1 : h1.get id = none) (hg : ∀ j, h'.get j = if j = id then some (.own e sz (n + m) (xs ++ ys)) else h1.get j)
    (hbs : (itA θ id0 b0).bs = [(θ id0).1]) (hxw : ∀ q ∈ xs, q.Wf (AH θ h)) (hyw : ∀ q ∈ ys, q.Wf (AH θ h)) (hm1 : 0 < m) (hm2 : n + m ≤ 1000000) (hby : (n + m) * bytes ≤ 100000000) (hone : ys.all AV.isOne = true)
    {w : World} (hm : Mem θ h w) (hA : (own (some (θ id0).1) cap e sz n (xs.map (AV.dec θ))).A w) (hl : ys.length = m * sz) (hp : p2 = none → m = 0) (hnews : ∀ a, p2 = some a → ∀ j u, (ys.map (AV.dec θ))[j]? = some u → w.cell? (a.add j) = some u)
    {dst : Option Tmp} {ty t2 : TypeId} {pos : String} {af : Array Edge} {g : Option (Nat × Bool)} (ht2 : t2 = t) : does P ⟨dst, .call ⟨.builtin .append, #[x, y], #[t, t2]⟩, ty, pos, af, g⟩ a w (Post θ h hb w (.sl id 0 (n + m) false 0) h') := by
  subst ht2
  obtain ⟨ob', cap', w', r1, r2, r3, r4, r5⟩ := run_append (ty := ty) T hA (by rw [List.length_map]; exact hl) hp hnews (all_one hone) (show n + m ≤ maxLen by simp only [maxLen]; omega) (by omega) (c2 := c2)
  have hne0 : h.get id = none := by
    rw [hg1] at hn1
    split at hn1
    · cases hn1
    · exact hn1
  unfold does
  rw [exec_append ha1 ha2 r1]
  rcases r5 with r5 | r5
  · omega
  · obtain ⟨b', rfl⟩ := Option.isSome_iff_exists.1 r5
    have hx : ∀ k m, AH θ h k m → upd θ id (b', cap') k = θ k := fun k _ hk => upd_ne fun e => by
      subst e
      have hk := hk.1
      rw [hne0] at hk; cases hk
    have hw : ∀ q ∈ xs ++ ys, q.Wf (AH θ h) := fun q hq => (List.mem_append.1 hq).elim (hxw q) (hyw q)
    have hit : itA (upd θ id (b', cap')) id (.own e sz (n + m) (xs ++ ys)) = own (some b') cap' e sz (n + m) (xs.map (AV.dec θ) ++ ys.map (AV.dec θ)) := by
      show own (some (upd θ id (b', cap') id).1) (upd θ id (b', cap') id).2 e sz (n + m) ((xs ++ ys).map (AV.dec (upd θ id (b', cap')))) = _
      rw [decs_ext (θ := θ) hx hw, upd_at, List.map_append]
    refine post_app hm h0 hb0 hne0 (app_get hg1 hg) (b', cap') (by rw [hbs]; exact r3) (by rw [hit]; exact r2) (fun q hq => ?_) hw ⟨got hg, ?_⟩ ?_
    · rw [hit] at hq
      rw [hbs]
      exact r4 q hq
    · rw [upd_at]; exact r2.2.1
    · simp [AV.dec, upd_at]
theorem app_new {e : TypeId} {sz bytes n m cap : Nat} {xs ys : List AV} {c2 : Nat} {p p2 : Option Addr} (T : ElemT P t e sz bytes) (ha1 : a.eval x = .slice p n cap) (ha2 : a.eval y = .slice p2 m c2)
    (hn : h.get id = none) (hg : ∀ j, h'.get j = if j = id then some (.own e sz (n + m) (xs ++ ys)) else h.get j)
    (hxw : ∀ q ∈ xs, q.Wf (AH θ h)) (hyw : ∀ q ∈ ys, q.Wf (AH θ h)) (hroom : cap < n + m) (hm2 : n + m ≤ 1000000) (hby : (n + m) * bytes ≤ 100000000)
    {w : World} (hm : Mem θ h w) (hl1 : xs.length = n * sz) (hp1 : p = none → n = 0) (holds : ∀ a, p = some a → ∀ j u, (xs.map (AV.dec θ))[j]? = some u → w.cell? (a.add j) = some u)
    (hl : ys.length = m * sz) (hp : p2 = none → m = 0) (hnews : ∀ a, p2 = some a → ∀ j u, (ys.map (AV.dec θ))[j]? = some u → w.cell? (a.add j) = some u)
    {dst : Option Tmp} {ty t2 : TypeId} {pos : String} {af : Array Edge} {g : Option (Nat × Bool)} (ht2 : t2 = t) : does P ⟨dst, .call ⟨.builtin .append, #[x, y], #[t, t2]⟩, ty, pos, af, g⟩ a w (Post θ h hb w (.sl id 0 (n + m) false 0) h') := by
  subst ht2
  obtain ⟨w', r1, r2, r3⟩ := run_appendNew (ty := ty) (cap := cap) T (by rw [List.length_map]; exact hl1) hp1 holds (by rw [List.length_map]; exact hl) hp hnews hroom (show n + m ≤ maxLen by simp only [maxLen]; omega) (by omega) (c2 := c2)
  unfold does
  rw [exec_append ha1 ha2 r1]
  have hx : ∀ k q, AH θ h k q → upd θ id (w.heap.size, grownCap w (n + m) cap e) k = θ k := fun k _ hk => upd_ne fun e => by
    subst e
    have hk := hk.1
    rw [hn] at hk; cases hk
  have hw : ∀ q ∈ xs ++ ys, q.Wf (AH θ h) := fun q hq => (List.mem_append.1 hq).elim (hxw q) (hyw q)
  have hit : itA (upd θ id (w.heap.size, grownCap w (n + m) cap e)) id (.own e sz (n + m) (xs ++ ys)) = own (some w.heap.size) (grownCap w (n + m) cap e) e sz (n + m) (xs.map (AV.dec θ) ++ ys.map (AV.dec θ)) := by
    show own (some (upd θ id (w.heap.size, grownCap w (n + m) cap e) id).1) (upd θ id (w.heap.size, grownCap w (n + m) cap e) id).2 e sz (n + m) ((xs ++ ys).map (AV.dec (upd θ id (w.heap.size, grownCap w (n + m) cap e)))) = _
    rw [decs_ext (θ := θ) hx hw, upd_at, List.map_append]
  refine post_new hm hn hg (w.heap.size, grownCap w (n + m) cap e) r2 (by rw [hit]; exact r3) (fun q hq => ?_) hw ⟨got hg, ?_⟩ ?_
  · rw [hit] at hq
    have : q = w.heap.size := by simpa [own] using hq
    omega
  · rw [upd_at]; exact r3.2.1
  · simp [AV.dec, upd_at]
theorem append_ok {t2 : TypeId} (ht2 : t2 = t) (ha : AgT θ nt a env) (hw : WfE (AH θ h) env) (hmw : ∀ id b, h.get id = some b → ∀ x ∈ b.vals, x.Wf (AH θ h)) (hv : evAppend P hb t x y env id h = some (v, h')) : Ok P a (.call ⟨.builtin .append, #[x, y], #[t, t2]⟩) θ h hb v h' := by
  unfold evAppend at hv
  split at hv
  · next e u q hd hx hy =>
    split at hv
    · next i hi =>
      split at hv
      · next n xs m ys hrx hry =>
        cases hc : (Nat.blt 0 i.size && (Nat.ble (n + m) 1000000 && (Nat.ble ((n + m) * i.bytes) 100000000 && (ys.all AV.isOne && zeroOk P e i.size)))) with
        | false => rw [hc] at hv; cases hv
        | true =>
          rw [hc] at hv
          simp only [Bool.and_eq_true] at hc
          obtain ⟨c1, c2, c3, c4, c5⟩ := hc
          have c1 : 0 < i.size := Nat.le_of_ble_eq_true c1
          have c2 := Nat.le_of_ble_eq_true c2
          have c3 := Nat.le_of_ble_eq_true c3
          have T := zeroOk_el hd hi c1 c5
          have hxe := ha.ev hx
          have hye := ha.ev hy
          have hxw := rowA_wf hmw hrx
          have hyw := rowA_wf hmw hry
          have hv : appA hb e i.size id h u n xs m ys = some (v, h') := hv
          have zero : ∀ w, Mem θ h w → m = 0 → ∀ p cap, u.dec θ = .slice p n cap → n ≤ cap → ∀ dst ty pos af g, does P ⟨dst, .call ⟨.builtin .append, #[x, y], #[t, t2]⟩, ty, pos, af, g⟩ a w (Post θ h hb w u h) := by
            intro w hm h0 p cap hu hle dst ty pos af g
            subst ht2
            subst h0
            obtain ⟨p2, c2', e1, e2, e3, e4⟩ := rowA_ok hm hry
            unfold does
            rw [exec_append (hxe.trans hu) (hye.trans e1) (run_append0 (ty := ty) T hle), ← hu]
            exact .same hm (evO_wf hw hx)
          unfold appA at hv
          split at hv
          · cases hm0 : Nat.beq m 0 with
            | true =>
              rw [hm0] at hv
              cases hv
              have hm0 := Nat.eq_of_beq_eq_true hm0
              have hn : n = 0 := by cases hrx; rfl
              exact ⟨fun dst ty pos af g w hm => zero w hm hm0 none 0 (by rw [hn]; rfl) (by omega) dst ty pos af g, fun h => h⟩
            | false =>
              rw [hm0] at hv
              have hm0 : m ≠ 0 := fun e => by rw [e] at hm0; cases hm0
              have hv2 : newB id (.own e i.size m ys) (.sl id 0 m false 0) h = some (v, h') := hv
              have hn : n = 0 ∧ xs = [] := by cases hrx; exact ⟨rfl, rfl⟩
              obtain ⟨rfl, rfl⟩ := hn
              obtain ⟨h0, rfl, hg⟩ := newB_inv hv2
              refine ⟨fun dst ty pos af g w hm => ?_, fun hI => inv_new hI h0 hg⟩
              obtain ⟨p2, c2', e1, e2, e3, e4⟩ := rowA_ok hm hry
              have := app_new (hb := hb) (xs := []) (n := 0) (cap := 0) (p := none) (dst := dst) (ty := ty) (pos := pos) (af := af) (g := g) T hxe (hye.trans e1) h0 (by rw [Nat.zero_add]; exact hg) (by simp) hyw (by omega) c2 c3 hm (by simp) (fun _ => rfl) (fun a ha => by cases ha) e2 e3 e4 ht2
              rw [Nat.zero_add] at this
              exact this
          · next id0 off n' k c _ =>
            have hn' : n' = n := by
              unfold rowA at hrx
              dsimp only at hrx
              split at hrx
              · obtain ⟨r, _, h2⟩ := Option.map_eq_some_iff.1 hrx
                cases h2; rfl
              · cases hrx
            subst hn'
            have huw := evO_wf hw hx
            cases hm0 : Nat.beq m 0 with
            | true =>
              rw [hm0] at hv
              have hm0 := Nat.eq_of_beq_eq_true hm0
              have hv : (bif !k || Nat.ble n' c then some (AV.sl id0 off n' k c, h) else none) = some (v, h') := hv
              cases hk : (!k || Nat.ble n' c) with
              | false => rw [hk] at hv; cases hv
              | true =>
                rw [hk] at hv
                cases hv
                refine ⟨fun dst ty pos af g w hm => zero w hm hm0 _ _ rfl ?_ dst ty pos af g, fun h => h⟩
                cases k with
                | true => exact Nat.le_of_ble_eq_true hk
                | false =>
                  have := huw.2
                  simp only [cond_false] at this ⊢
                  omega
            | false =>
              rw [hm0] at hv
              have hm0 : 0 < m := by
                rcases Nat.eq_zero_or_pos m with e | e
                · rw [e] at hm0; cases hm0
                · exact e
              have hv : (match h.get id0 with
                | some (.own T sz n0 l) => bif Nat.beq off 0 && (!k && (Nat.beq c 0 && (Nat.beq sz i.size && decide (T = e)))) then (match turnB hb id0 .dead (.sl id0 off n' k c) h with
                  | some (_, h1) => newB id (.own e i.size (n' + m) (xs ++ ys)) (.sl id 0 (n' + m) false 0) h1
                  | none => none) else none
                | some (.cells T l) => bif k && Nat.beq c n' then newB id (.own e i.size (n' + m) (xs ++ ys)) (.sl id 0 (n' + m) false 0) h
                  else bif Nat.beq off 0 && (k && (Nat.beq (c * i.size) l.length && (Nat.ble n' c && (Nat.ble c 1000000 && decide (T = e))))) then (match turnB hb id0 .dead (.sl id0 off n' k c) h with
                    | some (_, h1) => newB id (.own e i.size (n' + m) (xs ++ ys)) (.sl id 0 (n' + m) false 0) h1
                    | none => none) else none
                | _ => none : Eff) = some (v, h') := hv
              split at hv
              · next T0 sz n0 l hb0 =>
                cases hc : (Nat.beq off 0 && (!k && (Nat.beq c 0 && (Nat.beq sz i.size && decide (T0 = e))))) with
                | false => rw [hc] at hv; cases hv
                | true =>
                  rw [hc] at hv
                  simp only [Bool.and_eq_true, decide_eq_true_eq, Bool.not_eq_true'] at hc
                  obtain ⟨d1, rfl, d3, d4, rfl⟩ := hc
                  have d1 := Nat.eq_of_beq_eq_true d1
                  have d3 := Nat.eq_of_beq_eq_true d3
                  have d4 := Nat.eq_of_beq_eq_true d4
                  subst d1; subst d3; subst d4
                  have hv : (match turnB hb id0 .dead (.sl id0 0 n' false 0) h with
                    | some (_, h1) => newB id (.own T0 i.size (n' + m) (xs ++ ys)) (.sl id 0 (n' + m) false 0) h1
                    | none => none : Eff) = some (v, h') := hv
                  split at hv
                  · next u1 h1 ht1 =>
                    obtain ⟨k1, -, k2⟩ := turnB_inv ht1
                    obtain ⟨k3, rfl, k4⟩ := newB_inv hv
                    refine ⟨fun dst ty pos af g w hm => ?_, fun hI => inv_new (inv_turn hI k1 k2) k3 k4⟩
                    obtain ⟨p1, c1', f1, f2, f3, f4⟩ := rowA_ok hm hrx
                    obtain ⟨p2, c2', e1, e2, e3, e4⟩ := rowA_ok hm hry
                    have hA : (own (some (θ id0).1) (θ id0).2 T0 i.size n0 (l.map (AV.dec θ))).A w := hm.ok id0 _ hb0
                    have hxs : xs = l.take (n' * i.size) := by
                      unfold rowA at hrx
                      dsimp only at hrx
                      rw [hb0] at hrx
                      obtain ⟨r, hr2, h2⟩ := Option.map_eq_some_iff.1 hrx
                      cases h2
                      exact (takeL_eq hr2).1
                    have hle : n' ≤ n0 := by
                      have h3 := hA.1
                      rw [List.length_map] at h3
                      rw [hxs, List.length_take, h3] at f2
                      have : n' * i.size ≤ n0 * i.size := by omega
                      exact Nat.le_of_mul_le_mul_right this c1
                    have hA' := own_less hA hle
                    rw [← List.map_take, ← hxs] at hA'
                    exact app_own (hb := hb) (dst := dst) (ty := ty) (pos := pos) (af := af) (g := g) T hxe (hye.trans e1) hb0 k1 k2 k3 k4 rfl hxw hyw hm0 c2 c3 c4 hm hA' e2 e3 e4 ht2
                  · cases hv
              · next T0 l hb0 =>
                cases hc : (k && Nat.beq c n') with
                | true =>
                  rw [hc] at hv
                  rw [Bool.and_eq_true] at hc
                  obtain ⟨rfl, d2⟩ := hc
                  have d2 := Nat.eq_of_beq_eq_true d2
                  subst d2
                  obtain ⟨k3, rfl, k4⟩ := newB_inv hv
                  refine ⟨fun dst ty pos af g w hm => ?_, fun hI => inv_new hI k3 k4⟩
                  obtain ⟨p1, c1', f1, f2, f3, f4⟩ := rowA_ok hm hrx
                  obtain ⟨p2, c2', e1, e2, e3, e4⟩ := rowA_ok hm hry
                  have f1' : Value.slice (some ⟨(θ id0).1, off, none⟩) c c = .slice p1 c c1' := f1
                  cases f1'
                  exact app_new (hb := hb) (dst := dst) (ty := ty) (pos := pos) (af := af) (g := g) T hxe (hye.trans e1) k3 k4 hxw hyw (by rw [cond_true]; omega) c2 c3 hm f2 f3 f4 e2 e3 e4 ht2
                | false =>
                  rw [hc] at hv
                  have hv : (bif Nat.beq off 0 && (k && (Nat.beq (c * i.size) l.length && (Nat.ble n' c && (Nat.ble c 1000000 && decide (T0 = e))))) then (match turnB hb id0 .dead (.sl id0 off n' k c) h with
                    | some (_, h1) => newB id (.own e i.size (n' + m) (xs ++ ys)) (.sl id 0 (n' + m) false 0) h1
                    | none => none) else none : Eff) = some (v, h') := hv
                  cases hc2 : (Nat.beq off 0 && (k && (Nat.beq (c * i.size) l.length && (Nat.ble n' c && (Nat.ble c 1000000 && decide (T0 = e)))))) with
                  | false => rw [hc2] at hv; cases hv
                  | true =>
                    rw [hc2] at hv
                    simp only [Bool.and_eq_true, decide_eq_true_eq] at hc2
                    obtain ⟨d1, rfl, d3, d4, d5, rfl⟩ := hc2
                    have d1 := Nat.eq_of_beq_eq_true d1
                    have d3 := Nat.eq_of_beq_eq_true d3
                    have d4 := Nat.le_of_ble_eq_true d4
                    have d5 := Nat.le_of_ble_eq_true d5
                    subst d1
                    have hv : (match turnB hb id0 .dead (.sl id0 0 n' true c) h with
                      | some (_, h1) => newB id (.own T0 i.size (n' + m) (xs ++ ys)) (.sl id 0 (n' + m) false 0) h1
                      | none => none : Eff) = some (v, h') := hv
                    split at hv
                    · next u1 h1 ht1 =>
                      obtain ⟨k1, -, k2⟩ := turnB_inv ht1
                      obtain ⟨k3, rfl, k4⟩ := newB_inv hv
                      refine ⟨fun dst ty pos af g w hm => ?_, fun hI => inv_new (inv_turn hI k1 k2) k3 k4⟩
                      obtain ⟨p2, c2', e1, e2, e3, e4⟩ := rowA_ok hm hry
                      have hA : (cel (θ id0).1 (l.map (AV.dec θ)) T0).A w := hm.ok id0 _ hb0
                      have hxs : xs = l.take (n' * i.size) := by
                        unfold rowA at hrx
                        dsimp only at hrx
                        rw [hb0] at hrx
                        obtain ⟨r, hr2, h2⟩ := Option.map_eq_some_iff.1 hrx
                        cases h2
                        exact (takeL_eq hr2).1
                      have hA' := own_of_cel (n := n') (cap := c) (sz := i.size) hA d4 (show c ≤ maxLen by simp only [maxLen]; omega) (by rw [List.length_map]; exact d3.symm)
                      rw [← List.map_take, ← hxs] at hA'
                      exact app_own (hb := hb) (dst := dst) (ty := ty) (pos := pos) (af := af) (g := g) T hxe (hye.trans e1) hb0 k1 k2 k3 k4 rfl hxw hyw hm0 c2 c3 c4 hm hA' e2 e3 e4 ht2
                    · cases hv
              · cases hv
          · cases hv
      · cases hv
    · cases hv
  · cases hv
end
end Go.PK
