import Derived.Test.YthgjgeapfndeeaaGreatDoorED
set_option linter.unusedVariables false
set_option linter.unusedSimpArgs false
/-
  EF, part 1: the machine laid into closures: what is known of the text is worked out once.
-/
namespace Go.PK
noncomputable def ob {α β : Type} (x : Option α) (k : α → Option β) : Option β := Option.rec (motive := fun _ => Option β) none k x
noncomputable def bo {β : Type} (b : Bool) (x y : β) : β := Bool.rec (motive := fun _ => β) y x b
/-! ### Lists, by places that are known -/
noncomputable def dropC : Nat → Cl (List AV → List AV)
  | 0 => ⟨fun l => l⟩
  | n + 1 => ⟨fun l => List.rec (motive := fun _ => List AV) [] (fun _ t _ => (dropC n).f t) l⟩
noncomputable def takeC : Nat → Cl (List AV → Option (List AV))
  | 0 => ⟨fun _ => some []⟩
  | n + 1 => ⟨fun l => List.rec (motive := fun _ => Option (List AV)) none (fun x t _ => ob ((takeC n).f t) fun r => some (x :: r)) l⟩
noncomputable def nthC : Nat → Cl (List AV → Option AV)
  | 0 => ⟨fun l => List.rec (motive := fun _ => Option AV) none (fun x _ _ => some x) l⟩
  | n + 1 => ⟨fun l => List.rec (motive := fun _ => Option AV) none (fun _ t _ => (nthC n).f t) l⟩
/-- As long, and each of one cell. -/
noncomputable def isOneF (v : AV) : Bool := AV.casesOn (motive_1 := fun _ => Bool) v (fun w => w.oneCell') (fun _ _ => true) (fun _ _ _ _ _ => true) (fun _ => true) (fun _ => true) (fun _ _ _ _ _ => true) (fun _ _ _ => true) (fun _ => false) (fun _ => false)
noncomputable def onesC : Nat → Cl (List AV → Bool)
  | 0 => ⟨fun l => List.rec (motive := fun _ => Bool) true (fun _ _ _ => false) l⟩
  | n + 1 => ⟨fun l => List.rec (motive := fun _ => Bool) false (fun x t _ => bo (isOneF x) ((onesC n).f t) false) l⟩
noncomputable def lenC : Nat → Cl (List AV → Bool)
  | 0 => ⟨fun l => List.rec (motive := fun _ => Bool) true (fun _ _ _ => false) l⟩
  | n + 1 => ⟨fun l => List.rec (motive := fun _ => Bool) false (fun _ t _ => (lenC n).f t) l⟩
/-- Parts laid over cells; they must not run out. -/
noncomputable def overL (vs : List AV) : List AV → Option (List AV) := List.rec (motive := fun _ => List AV → Option (List AV)) (fun cs => some cs) (fun v _ ih cs => List.rec (motive := fun _ => Option (List AV)) none (fun _ t _ => ob (ih t) fun r => some (v :: r)) cs) vs
noncomputable def splC : Nat → Cl (List AV → List AV → Option (List AV))
  | 0 => ⟨fun vs cs => overL vs cs⟩
  | n + 1 => ⟨fun vs cs => List.rec (motive := fun _ => Option (List AV)) none (fun c t _ => ob ((splC n).f vs t) fun r => some (c :: r)) cs⟩
noncomputable def cellsF (v : AV) : List AV := AV.casesOn (motive_1 := fun _ => List AV) v (fun w => AV.cells (.val w)) (fun a b => [AV.ptr a b]) (fun a b c d e => [AV.sl a b c d e]) (fun a => [AV.map a]) (fun a => [AV.stamp a]) (fun a b c d e => [AV.tail a b c d e]) (fun a b c => [AV.fn a b c]) (fun l => l) (fun l => [AV.tup l])
noncomputable def allOneL (l : List AV) : Bool := List.rec (motive := fun _ => Bool) true (fun x _ ih => bo (isOneF x) ih false) l
noncomputable def appL (l m : List AV) : List AV := List.rec (motive := fun _ => List AV) m (fun x _ ih => x :: ih) l
/-! ### States compared -/
noncomputable def intE : Value → Value → Bool
  | .int k m, .int k' n => Int.rec (motive := fun _ => Bool) (fun a => Int.rec (motive := fun _ => Bool) (fun b => Nat.beq a b && decide (k = k')) (fun _ => false) n) (fun _ => decide (m = n) && decide (k = k')) m
  | a, b => valB a b
noncomputable def avE (a b : AV) : Bool := AV.casesOn (motive_1 := fun _ => Bool) a
  (fun w => AV.casesOn (motive_1 := fun _ => Bool) b (fun w' => intE w w') (fun _ _ => false) (fun _ _ _ _ _ => false) (fun _ => false) (fun _ => false) (fun _ _ _ _ _ => false) (fun _ _ _ => false) (fun _ => false) (fun _ => false))
  (fun i o => AV.casesOn (motive_1 := fun _ => Bool) b (fun _ => false) (fun j p => bo (Nat.beq i j) (Nat.beq o p) false) (fun _ _ _ _ _ => false) (fun _ => false) (fun _ => false) (fun _ _ _ _ _ => false) (fun _ _ _ => false) (fun _ => false) (fun _ => false))
  (fun _ _ _ _ _ => a.eqB b) (fun _ => a.eqB b) (fun _ => a.eqB b) (fun _ _ _ _ _ => a.eqB b) (fun _ _ _ => a.eqB b) (fun _ => a.eqB b) (fun _ => a.eqB b)
noncomputable def listE (l : List AV) : List AV → Bool := List.rec (motive := fun _ => List AV → Bool) (fun m => List.rec (motive := fun _ => Bool) true (fun _ _ _ => false) m) (fun a _ ih m => List.rec (motive := fun _ => Bool) false (fun b t _ => bo (avE a b) (ih t) false) m) l
noncomputable def blkE (x y : Blk) : Bool := Blk.rec (motive := fun _ => Bool)
  (fun T l => Blk.rec (motive := fun _ => Bool) (fun U m => bo (Nat.beq T U) (listE l m) false) (fun _ _ _ _ => false) (fun _ _ => false) (fun _ _ _ _ => false) false y)
  (fun T z n l => Blk.rec (motive := fun _ => Bool) (fun _ _ => false) (fun U z' n' m => bo (Nat.beq T U && (Nat.beq z z' && Nat.beq n n')) (listE l m) false) (fun _ _ => false) (fun _ _ _ _ => false) false y)
  (fun _ _ => x.eqB y) (fun _ _ _ _ => x.eqB y) (x.eqB y) x
noncomputable def optE {α : Type} (f : α → α → Bool) (x y : Option α) : Bool := Option.rec (motive := fun _ => Bool) (Option.rec (motive := fun _ => Bool) true (fun _ => false) y) (fun a => Option.rec (motive := fun _ => Bool) false (fun b => f a b) y) x
noncomputable def trE {α : Type} (f : α → α → Bool) (s : Tr α) : Tr α → Bool := Tr.rec (motive := fun _ => Tr α → Bool) (fun t => Tr.rec (motive := fun _ => Bool) true (fun _ _ _ _ _ => false) t)
  (fun _ v _ il ir t => Tr.rec (motive := fun _ => Bool) false (fun l' v' r' _ _ => bo (optE f v v') (bo (il l') (ir r') false) false) t) s
noncomputable def stE (s t : St) : Bool := bo (Nat.beq s.nx t.nx) (bo (trE blkE s.h t.h) (N8.eqB (N8.eqB (N8.eqB (optE avE))) s.env t.env) false) false
/-! ### Operands -/
noncomputable def gO : Operand → Cl (EnvT → Option AV)
  | .tmp t => bif Nat.blt t 512 then EnvT.gE t else ⟨fun _ => none⟩
  | .const v => ⟨fun _ => some (.val v)⟩
  | .func f => ⟨fun _ => some (.fn f [] [])⟩
  | .global _ => ⟨fun _ => none⟩
noncomputable def gOs : List Operand → Cl (EnvT → Option (List AV))
  | [] => ⟨fun _ => some []⟩
  | x :: r => ⟨fun e => ob ((gO x).f e) fun v => ob ((gOs r).f e) fun l => some (v :: l)⟩
abbrev KT (β : Type) := CallT → Heap → EnvT → Heap → Nat → Option β
noncomputable def cPut {β : Type} (nt : Nat) (k : Cl (KT β)) : Option Nat → Cl (AV → KT β)
  | none => ⟨fun _ => k.f⟩
  | some d => bif Nat.blt d nt && Nat.blt d 512 then ⟨fun v c b e h n => k.f c b ((EnvT.sE d).f v e) h n⟩ else ⟨fun _ _ _ _ _ _ => none⟩
/-! ### Values taken apart -/
noncomputable def onVal {β : Type} (v : AV) (k : Value → Option β) : Option β := AV.casesOn (motive_1 := fun _ => Option β) v k (fun _ _ => none) (fun _ _ _ _ _ => none) (fun _ => none) (fun _ => none) (fun _ _ _ _ _ => none) (fun _ _ _ => none) (fun _ => none) (fun _ => none)
noncomputable def onPtr {β : Type} (v : AV) (k : Nat → Nat → Option β) : Option β := AV.casesOn (motive_1 := fun _ => Option β) v (fun _ => none) k (fun _ _ _ _ _ => none) (fun _ => none) (fun _ => none) (fun _ _ _ _ _ => none) (fun _ _ _ => none) (fun _ => none) (fun _ => none)
noncomputable def onAgg {β : Type} (v : AV) (k : List AV → Option β) : Option β := AV.casesOn (motive_1 := fun _ => Option β) v (fun _ => none) (fun _ _ => none) (fun _ _ _ _ _ => none) (fun _ => none) (fun _ => none) (fun _ _ _ _ _ => none) (fun _ _ _ => none) k (fun _ => none)
noncomputable def onTup {β : Type} (v : AV) (k : List AV → Option β) : Option β := AV.casesOn (motive_1 := fun _ => Option β) v (fun _ => none) (fun _ _ => none) (fun _ _ _ _ _ => none) (fun _ => none) (fun _ => none) (fun _ _ _ _ _ => none) (fun _ _ _ => none) (fun _ => none) k
noncomputable def onSl {β : Type} (v : AV) (k : Nat → Nat → Nat → Bool → Nat → Option β) : Option β := AV.casesOn (motive_1 := fun _ => Option β) v (fun _ => none) (fun _ _ => none) k (fun _ => none) (fun _ => none) (fun _ _ _ _ _ => none) (fun _ _ _ => none) (fun _ => none) (fun _ => none)
def asB : Value → Option Bool
  | .bool b => some b
  | _ => none
def asP : Value → Option Addr
  | .pointer p => p
  | _ => none
def asIV : Value → Option (IntKind × Int)
  | .int k n => some (k, n)
  | _ => none
noncomputable def onB {β : Type} (v : AV) (k : Bool → Option β) : Option β := onVal v fun w => ob (asB w) k
noncomputable def onI {β : Type} (v : AV) (k : IntKind → Int → Option β) : Option β := onVal v fun w => ob (asIV w) fun p => Prod.rec (motive := fun _ => Option β) k p
noncomputable def onNat {β : Type} (n : Int) (k : Nat → Option β) : Option β := Int.rec (motive := fun _ => Option β) k (fun _ => none) n
/-! ### Numbers -/
def lim : IntKind → Nat
  | .i8 => 128
  | .u8 => 256
  | .i16 => 32768
  | .u16 => 65536
  | .i32 => 2147483648
  | .u32 => 4294967296
  | .i64 => 9223372036854775808
  | .u64 => 18446744073709551616
def kN : IntKind → Nat
  | .i8 => 0
  | .u8 => 1
  | .i16 => 2
  | .u16 => 3
  | .i32 => 4
  | .u32 => 5
  | .i64 => 6
  | .u64 => 7
noncomputable def slowI (op : BinOp) (k : IntKind) (m : Int) (k' : IntKind) (n : Int) : Option AV := ob (ib2 op k m k' n) fun v => frc (.val v) some
noncomputable def two {β : Type} (m n : Int) (x : β) (f : Nat → Nat → β) : β := Int.rec (motive := fun _ => β) (fun a => Int.rec (motive := fun _ => β) (fun b => f a b) (fun _ => x) n) (fun _ => x) m
noncomputable def small (k : IntKind) (r : Nat) (x : Option AV) : Option AV := frcN (fun r => bo (Nat.blt r (lim k)) (some (.val (.int k (.ofNat r)))) x) r
noncomputable def vB (b : Bool) : Option AV := bo b (some (.val (.bool true))) (some (.val (.bool false)))
noncomputable def fI : BinOp → Cl (IntKind → Int → IntKind → Int → Option AV)
  | .add => ⟨fun k m k' n => two m n (slowI .add k m k' n) fun a b => small k (Nat.add a b) (slowI .add k m k' n)⟩
  | .sub => ⟨fun k m k' n => two m n (slowI .sub k m k' n) fun a b => bo (Nat.ble b a) (small k (Nat.sub a b) (slowI .sub k m k' n)) (slowI .sub k m k' n)⟩
  | .mul => ⟨fun k m k' n => two m n (slowI .mul k m k' n) fun a b => small k (Nat.mul a b) (slowI .mul k m k' n)⟩
  | .quo => ⟨fun k m k' n => two m n (slowI .quo k m k' n) fun a b => bo (Nat.ble b 0) none (small k (Nat.div a b) (slowI .quo k m k' n))⟩
  | .rem => ⟨fun k m k' n => two m n (slowI .rem k m k' n) fun a b => bo (Nat.ble b 0) none (small k (Nat.mod a b) (slowI .rem k m k' n))⟩
  | .eql => ⟨fun k m k' n => two m n (slowI .eql k m k' n) fun a b => vB (Nat.beq a b)⟩
  | .neq => ⟨fun k m k' n => two m n (slowI .neq k m k' n) fun a b => vB (bo (Nat.beq a b) false true)⟩
  | .lss => ⟨fun k m k' n => two m n (slowI .lss k m k' n) fun a b => vB (Nat.blt a b)⟩
  | .leq => ⟨fun k m k' n => two m n (slowI .leq k m k' n) fun a b => vB (Nat.ble a b)⟩
  | .gtr => ⟨fun k m k' n => two m n (slowI .gtr k m k' n) fun a b => vB (Nat.blt b a)⟩
  | .geq => ⟨fun k m k' n => two m n (slowI .geq k m k' n) fun a b => vB (Nat.ble b a)⟩
  | op => ⟨fun k m k' n => slowI op k m k' n⟩
/-! ### Operations that only yield -/
noncomputable def fld (P : Program) (t : TypeId) (off : Nat) : Cl (List AV → Option AV) := match P.underlying t, P.info? t with
  | some d, some i => bif aggD d then ⟨fun l => ob ((takeC i.size).f ((dropC off).f l)) fun r => some (.agg r)⟩ else nthC off
  | _, _ => ⟨fun _ => none⟩
abbrev PT := EnvT → Option AV
noncomputable def fFA (P : Program) (t : TypeId) (x : Operand) (j : Nat) : Cl PT := match P.underlying t with
  | some (.struct fs) => match fs[j]? with
    | some f => match P.info? f.type with
      | some i => bif Nat.beq i.size 0 then ⟨fun _ => none⟩ else ⟨fun e => ob ((gO x).f e) fun v => onPtr v fun id off => frcN (fun o => some (.ptr id o)) (Nat.add off f.offset)⟩
      | none => ⟨fun _ => none⟩
    | none => ⟨fun _ => none⟩
  | _ => ⟨fun _ => none⟩
noncomputable def fFd (P : Program) (t : TypeId) (x : Operand) (j : Nat) : Cl PT := match P.underlying t with
  | some (.struct fs) => match fs[j]? with
    | some f => ⟨fun e => ob ((gO x).f e) fun v => onAgg v (fld P f.type f.offset).f⟩
    | none => ⟨fun _ => none⟩
  | _ => ⟨fun _ => none⟩
noncomputable def fIA (P : Program) (t : TypeId) (x y : Operand) : Cl PT := match P.underlying t with
  | some (.slice el) => match P.info? el with
    | some i => ⟨fun e => ob ((gO x).f e) fun v => onSl v fun id off len _ _ => ob ((gO y).f e) fun u => onI u fun _ m => onNat m fun j => bo (Nat.blt j len) (frcN (fun o => some (.ptr id o)) (Nat.add off (Nat.mul j i.size))) none⟩
    | none => ⟨fun _ => none⟩
  | some (.array n el) => match P.info? el with
    | some i => ⟨fun e => ob ((gO x).f e) fun v => onPtr v fun id off => ob ((gO y).f e) fun u => onI u fun _ m => onNat m fun j => bo (Nat.blt j n) (frcN (fun o => some (.ptr id o)) (Nat.add off (Nat.mul j i.size))) none⟩
    | none => ⟨fun _ => none⟩
  | _ => ⟨fun _ => none⟩
noncomputable def fCv (P : Program) (s d : TypeId) (x : Operand) : Cl PT := match P.underlying s, P.underlying d with
  | some (.int _), some (.int k') => ⟨fun e => ob ((gO x).f e) fun v => onI v fun _ m => Int.rec (motive := fun _ => Option AV) (fun a => bo (Nat.blt a (lim k')) (some (.val (.int k' (.ofNat a)))) (frc (.val (.int k' (k'.wrap (.ofNat a)))) some)) (fun a => frc (.val (.int k' (k'.wrap (.negSucc a)))) some) m⟩
  | _, _ => ⟨fun e => evConv P s d x e⟩
noncomputable def fBin (P : Program) (op : BinOp) (t : TypeId) (x y : Operand) : Cl PT := match P.underlying t with
  | some (.int _) => ⟨fun e => ob ((gO x).f e) fun u => ob ((gO y).f e) fun v => onI u fun k m => onI v fun k' n => bo (shOp op || Nat.beq (kN k) (kN k')) ((fI op).f k m k' n) none⟩
  | _ => ⟨fun e => evBin P op t x y e⟩
noncomputable def fNil (x : Operand) : Cl PT := ⟨fun e => ob ((gO x).f e) fun v => AV.casesOn (motive_1 := fun _ => Option AV) v (fun w => ob (asP w) fun _ => some v) (fun _ _ => some v) (fun _ _ _ _ _ => none) (fun _ => none) (fun _ => none) (fun _ _ _ _ _ => none) (fun _ _ _ => none) (fun _ => none) (fun _ => none)⟩
noncomputable def fUn (u : UnOp) (x : Operand) : Cl PT := match u with
  | .not => ⟨fun e => ob ((gO x).f e) fun v => onB v fun b => bo b (some (.val (.bool false))) (some (.val (.bool true)))⟩
  | u => ⟨fun e => ob (evUn u x e) fun v => frc v some⟩
noncomputable def fIx (P : Program) (t : TypeId) (x y : Operand) : Cl PT := match P.underlying t with
  | some (.array n el) => match P.info? el with
    | some i => ⟨fun e => ob ((gO x).f e) fun v => onAgg v fun l => ob ((gO y).f e) fun u => onI u fun _ m => onNat m fun j => bo (Nat.blt j n) ((fld P el (Nat.mul j i.size)).f l) none⟩
    | none => ⟨fun _ => none⟩
  | _ => ⟨fun e => evIx P t x y e⟩
noncomputable def fillC (place : Nat → Option (Nat × Nat)) : List (Nat × Operand) → Cl (EnvT → List AV → Option (List AV))
  | [] => ⟨fun _ cs => some cs⟩
  | (j, x) :: r => match place j with
    | some (off, size) => ⟨fun e cs => ob ((gO x).f e) fun v => bo ((lenC size).f (cellsF v)) (ob ((splC off).f (cellsF v) cs) ((fillC place r).f e)) none⟩
    | none => ⟨fun _ _ => none⟩
noncomputable def fBuild (P : Program) (t : TypeId) (ps : List (Nat × Operand)) : Cl PT := match P.underlying t, P.info? t with
  | some d, some i => match i.zero, placeA P d with
    | some z, some pl => ⟨fun e => ob ((fillC pl ps).f e (AV.val z).cells) fun r => some (.agg r)⟩
    | _, _ => ⟨fun _ => none⟩
  | _, _ => ⟨fun _ => none⟩
noncomputable def isFlat (P : Program) (t : TypeId) : Bool := (flatOf P t).isSome
noncomputable def fP (P : Program) : Op → Option (Cl PT)
  | .move x => some (gO x)
  | .assign x => some (gO x)
  | .pick x y z => some ⟨fun e => ob ((gO x).f e) fun v => onB v fun b => bo b ((gO y).f e) ((gO z).f e)⟩
  | .nilCheck x => some (fNil x)
  | .extract x j => some ⟨fun e => ob ((gO x).f e) fun v => onTup v (nthC j).f⟩
  | .unOp u _ x => some (fUn u x)
  | .binOp op t x y _ => bif isFlat P t then none else some (fBin P op t x y)
  | .convert s d x => some (fCv P s d x)
  | .field t x j => some (fFd P t x j)
  | .fieldAddr t x j => some (fFA P t x j)
  | .indexAddr t x y => some (fIA P t x y)
  | .slice t x l h none => some ⟨fun e => evSl P t x l h e⟩
  | .index t x y => some (fIx P t x y)
  | .build t ps => some (fBuild P t ps.toList)
  | .call ⟨.builtin .len, a, b⟩ => some ⟨fun e => ob (evCall P ⟨.builtin .len, a, b⟩ e) fun v => frc v some⟩
  | .call ⟨.builtin .min, a, b⟩ => some ⟨fun e => ob (evCall P ⟨.builtin .min, a, b⟩ e) fun v => frc v some⟩
  | .call ⟨.builtin .max, a, b⟩ => some ⟨fun e => ob (evCall P ⟨.builtin .max, a, b⟩ e) fun v => frc v some⟩
  | _ => none
/-! ### Operations of memory -/
noncomputable def rowF (b : Blk) : Option (List AV) := Blk.rec (motive := fun _ => Option (List AV)) (fun _ l => some l) (fun _ _ _ l => some l) (fun _ _ => none) (fun _ _ _ _ => none) none b
noncomputable def fLoad (P : Program) (t : TypeId) (x : Operand) : Cl (EnvT → Heap → Option AV) := match P.underlying t, P.info? t with
  | some d, some i => bif aggD d then ⟨fun e h => ob ((gO x).f e) fun v => onPtr v fun id off => ob (h.get id) fun b => ob (rowF b) fun l => ob ((takeC i.size).f ((dropC off).f l)) fun r => some (.agg r)⟩
    else ⟨fun e h => ob ((gO x).f e) fun v => onPtr v fun id off => ob (h.get id) fun b => ob (rowF b) (nthC off).f⟩
  | _, _ => ⟨fun _ _ => none⟩
abbrev MT := Heap → EnvT → Nat → Heap → Eff
noncomputable def turnF (hb : Heap) (id : Nat) (b : Blk) (v : AV) (h : Heap) : Eff := Option.rec (motive := fun _ => Eff) (ob (h.set b id) fun h' => some (v, h')) (fun _ => none) (hb.get id)
noncomputable def newF (id : Nat) (b : Blk) (v : AV) (h : Heap) : Eff := Option.rec (motive := fun _ => Eff) (ob (h.set b id) fun h' => some (v, h')) (fun _ => none) (h.get id)
noncomputable def fStore (P : Program) (t : TypeId) (x y : Operand) : Cl MT := match P.info? t with
  | some i => ⟨fun hb e _ h => ob ((gO x).f e) fun u => onPtr u fun id off => ob ((gO y).f e) fun v => bo ((onesC i.size).f (cellsF v)) (ob (h.get id) fun b =>
      Blk.rec (motive := fun _ => Eff) (fun T l => ob ((splC off).f (cellsF v) l) fun r => turnF hb id (.cells T r) (.val undef) h) (fun T sz n l => ob ((splC off).f (cellsF v) l) fun r => turnF hb id (.own T sz n r) (.val undef) h) (fun _ _ => none) (fun _ _ _ _ => none) none b) none⟩
  | none => ⟨fun _ _ _ _ => none⟩
noncomputable def fAlloc (P : Program) (t : TypeId) : Cl MT := match zeroA P t with
  | some l => ⟨fun _ _ id h => newF id (.cells t l) (.ptr id 0) h⟩
  | none => ⟨fun _ _ _ _ => none⟩
noncomputable def fBox (t : TypeId) (x : Operand) : Cl MT := ⟨fun _ e id h => ob ((gO x).f e) fun v => newF id (.cells t (cellsF v)) (.ptr id 0) h⟩
noncomputable def fBuildS (P : Program) (t : TypeId) (len : Nat) (ps : List (Nat × Operand)) : Cl MT := match P.underlying t with
  | some (.slice el) => match P.info? el, zeroA P el with
    | some i, some z => bif Nat.blt 0 i.size && Nat.ble (len * i.size) 16777216 && Nat.beq z.length i.size then
        ⟨fun _ e id h => ob ((fillC (fun j => some (j * i.size, i.size)) ps).f e (repA z len)) fun cs => newF id (.cells el cs) (.sl id 0 len true len) h⟩ else ⟨fun _ _ _ _ => none⟩
    | _, _ => ⟨fun _ _ _ _ => none⟩
  | _ => ⟨fun _ _ _ _ => none⟩
noncomputable def rowC (sz : Nat) (x : AV) (h : Heap) : Option (Nat × List AV) := AV.casesOn (motive_1 := fun _ => Option (Nat × List AV)) x (fun w => rowA sz (.val w) h) (fun _ _ => none)
  (fun id off len _ _ => ob (h.get id) fun b => ob (rowF b) fun l => ob ((takeC (Nat.mul len sz)).f ((dropC off).f l)) fun r => some (len, r)) (fun _ => none) (fun _ => none) (fun _ _ _ _ _ => some (0, [])) (fun _ _ _ => none) (fun _ => none) (fun _ => none)
noncomputable def appF (hb : Heap) (e : TypeId) (size id : Nat) (h : Heap) (u : AV) (n : Nat) (xs : List AV) (m : Nat) (ys : List AV) : Eff := match u with
  | .val (.slice none 0 0) => bif Nat.beq m 0 then some (u, h) else newF id (.own e size m ys) (.sl id 0 m false 0) h
  | .sl id0 off _ k c => bif Nat.beq m 0 then (bif !k || Nat.ble n c then some (u, h) else none) else frcN (fun nm => match h.get id0 with
    | some (.own T sz _ _) => bif Nat.beq off 0 && (!k && (Nat.beq c 0 && (Nat.beq sz size && decide (T = e)))) then (match turnF hb id0 .dead u h with
      | some (_, h1) => newF id (.own e size nm (appL xs ys)) (.sl id 0 nm false 0) h1
      | none => none) else none
    | some (.cells T l) => bif k && Nat.beq c n then newF id (.own e size nm (appL xs ys)) (.sl id 0 nm false 0) h
      else bif Nat.beq off 0 && (k && ((lenC (Nat.mul c size)).f l && (Nat.ble n c && (Nat.ble c 1000000 && decide (T = e))))) then (match turnF hb id0 .dead u h with
        | some (_, h1) => newF id (.own e size nm (appL xs ys)) (.sl id 0 nm false 0) h1
        | none => none) else none
    | _ => none) (Nat.add n m)
  | _ => none
noncomputable def fAppend (P : Program) (t : TypeId) (x y : Operand) : Cl MT := match P.underlying t with
  | some (.slice el) => match P.info? el with
    | some i => bif Nat.blt 0 i.size && zeroOk P el i.size then ⟨fun hb e id h => ob ((gO x).f e) fun u => ob ((gO y).f e) fun v => ob (rowC i.size u h) fun p => ob (rowC i.size v h) fun q =>
        bo (Nat.ble (Nat.add p.1 q.1) 1000000) (bo (Nat.ble (Nat.mul (Nat.add p.1 q.1) i.bytes) 100000000) (bo (allOneL q.2) (appF hb el i.size id h u p.1 p.2 q.1 q.2) none) none) none⟩ else ⟨fun _ _ _ _ => none⟩
    | none => ⟨fun _ _ _ _ => none⟩
  | _ => ⟨fun _ _ _ _ => none⟩
noncomputable def fM (P : Program) : Op → Option (Cl MT)
  | .alloc t => some (fAlloc P t)
  | .box t x => some (fBox t x)
  | .store t x y => some (fStore P t x y)
  | .buildSlice t len ps => some (fBuildS P t len ps.toList)
  | .call ⟨.builtin .append, ⟨[x, y]⟩, ⟨[t, t2]⟩⟩ => bif Nat.beq t2 t then some (fAppend P t x y) else none
  | .makeSlice t x y => some ⟨fun _ e id h => evMakeS P t x y e id h⟩
  | .makeMap t none => some ⟨fun _ _ id h => evMkMap P t id h⟩
  | .mapUpdate t x y z => some ⟨fun hb e _ h => evMapUp P hb t x y z e h⟩
  | _ => none
/-! ### An operation, and what follows -/
def callOf : Op → Option (FuncId × List Operand)
  | .call ⟨.value (.func f), ⟨xs⟩, _⟩ => some (f, xs)
  | _ => none
section
variable (C : Mch) (nt : Nat)
noncomputable def cDo {β : Type} (L : List Oper) (o : Oper) (k : Cl (KT β)) : Cl (KT β) := match fP C.P o.op with
  | some g => ⟨fun c b e h n => ob (g.f e) fun v => (cPut nt k o.dst).f v c b e h n⟩
  | none => match o.op with
    | .load t x => ⟨fun c b e h n => ob ((fLoad C.P t x).f e h) fun v => (cPut nt k o.dst).f v c b e h n⟩
    | op => match fM C.P op with
      | some g => ⟨fun c b e h n => ob (g.f b e n h) fun r => Prod.rec (motive := fun _ => Option β) (fun v h' => frcN (fun n' => (cPut nt k o.dst).f v c b e h' n') (Nat.succ n)) r⟩
      | none => match callOf op with
        | some (f, xs) => ⟨fun c b e h n => ob ((gOs xs).f e) fun l => ob (c b h n f l) fun r => Prod.rec (motive := fun _ => Option β) (fun v r => Prod.rec (motive := fun _ => Option β) (fun h' n' => (cPut nt k o.dst).f v c b e h' n') r) r⟩
        | none => ⟨fun c b e h n => ob (stepT C c nt b L {o with guard := none} ⟨e, h, n⟩) fun s => St.rec (motive := fun _ => Option β) (fun e h n => k.f c b e h n) s⟩
def isBA (w : Bool) : AV → Bool
  | .val (.bool b) => b == w
  | _ => false
noncomputable def cStep {β : Type} (L : List Oper) (o : Oper) (k : Cl (KT β)) : Cl (KT β) := match o.guard with
  | none => cDo C nt L o k
  | some (j, w) => match (nth L j).bind (·.dst) with
    | some dj => ⟨fun c b e h n => ob (e.get dj) fun v => bo (isBA w v) ((cDo C nt L o k).f c b e h n) ((cPut nt k o.dst).f (.val undef) c b e h n)⟩
    | none => ⟨fun _ _ _ _ _ => none⟩
noncomputable def cOps {β : Type} (L : List Oper) (k : Cl (KT β)) : List Oper → Cl (KT β)
  | [] => k
  | o :: r => cStep C nt L o (cOps L k r)
/-! ### Arguments laid bare: calls in several orders are then one call for the kernel -/
noncomputable def frc1 {β : Type} (v : AV) (k : AV → β) : β := AV.casesOn (motive_1 := fun _ => β) v (fun w => frc (.val w) k) (fun i o => frcN (fun i => frcN (fun o => k (.ptr i o)) o) i) (fun i o n b c => frcN (fun i => frcN (fun o => frcN (fun n => frcB (fun b => frcN (fun c => k (.sl i o n b c)) c) b) n) o) i) (fun i => frcN (fun i => k (.map i)) i) (fun i => k (.stamp i)) (fun x y z u w => k (.tail x y z u w)) (fun x y z => k (.fn x y z)) (fun l => k (.agg l)) (fun l => k (.tup l))
noncomputable def frcLA {β : Type} (l : List AV) : (List AV → β) → β := List.rec (motive := fun _ => (List AV → β) → β) (fun k => k []) (fun x _ ih k => frc1 x fun x => ih fun r => k (x :: r)) l
noncomputable def frcV {β : Type} (v : AV) (k : AV → β) : β := AV.casesOn (motive_1 := fun _ => β) v (fun w => frc (.val w) k) (fun i o => frc1 (.ptr i o) k) (fun i o n b c => frc1 (.sl i o n b c) k) (fun i => frc1 (.map i) k) (fun i => k (.stamp i)) (fun x y z u w => k (.tail x y z u w)) (fun x y z => k (.fn x y z)) (fun l => frcLA l fun l => k (.agg l)) (fun l => k (.tup l))
noncomputable def frcVs {β : Type} (l : List AV) : (List AV → β) → β := List.rec (motive := fun _ => (List AV → β) → β) (fun k => k []) (fun x _ ih k => frcV x fun x => ih fun r => k (x :: r)) l
noncomputable def frcK {β : Type} (K : Nat) (l : List AV) (k : List AV → β) : β := bo (Nat.beq K 0) (k l) (frcVs l k)
/-! ### Regions that draw -/
noncomputable def loadF (P : Program) (t : TypeId) : Cl (Nat → Nat → Heap → Option AV) := match P.underlying t, P.info? t with
  | some d, some i => bif aggD d then ⟨fun id off h => ob (h.get id) fun b => ob (rowF b) fun l => ob ((takeC i.size).f ((dropC off).f l)) fun r => some (.agg r)⟩
    else ⟨fun id off h => ob (h.get id) fun b => ob (rowF b) (nthC off).f⟩
  | _, _ => ⟨fun _ _ _ => none⟩
abbrev KQ (β : Type) := List Nat → KT β
noncomputable def qPut {β : Type} (k : Cl (KQ β)) : Option Nat → Cl (AV → KQ β)
  | none => ⟨fun _ => k.f⟩
  | some d => bif Nat.blt d nt && Nat.blt d 512 then ⟨fun v U c b e h n => k.f U c b ((EnvT.sE d).f v e) h n⟩ else ⟨fun _ _ _ _ _ _ _ => none⟩
noncomputable def qDo {β : Type} (o : Oper) (k : Cl (KQ β)) : Cl (KQ β) := match fP C.P o.op with
  | some g => ⟨fun U c b e h n => ob (g.f e) fun v => (qPut nt k o.dst).f v U c b e h n⟩
  | none => match o.op with
    | .load t x => ⟨fun U c b e h n => ob ((gO x).f e) fun u => onPtr u fun id off => ob ((loadF C.P t).f id off h) fun v => (qPut nt k o.dst).f v (id :: U) c b e h n⟩
    | _ => ⟨fun _ _ _ _ _ _ => none⟩
noncomputable def qStep {β : Type} (L : List Oper) (i : Nat) (k : Cl (KQ β)) : Cl (KQ β) := match nth L i with
  | some o => match o.guard with
    | none => qDo C nt o k
    | some (j, w) => match (nth L j).bind (·.dst) with
      | some dj => ⟨fun U c b e h n => ob (e.get dj) fun v => bo (isBA w v) ((qDo C nt o k).f U c b e h n) ((qPut nt k o.dst).f (.val undef) U c b e h n)⟩
      | none => ⟨fun _ _ _ _ _ _ => none⟩
  | none => ⟨fun _ _ _ _ _ _ => none⟩
noncomputable def qOps {β : Type} (L : List Oper) (k : Cl (KQ β)) : List Nat → Cl (KQ β)
  | [] => k
  | i :: r => qStep C nt L i (qOps L k r)
def lvOf : Op → Nat
  | .store _ _ _ => 3
  | .mapUpdate _ _ _ _ => 3
  | .call _ => 3
  | _ => 2
noncomputable def dDo {β : Type} (R : RA) (L : List Oper) (i : Nat) (o : Oper) (k : Cl (KT β)) : Cl (KT β) := match fP C.P o.op with
  | some g => ⟨fun c b e h n => ob (g.f e) fun v => (cPut nt k o.dst).f v c b e h n⟩
  | none => match o.op with
    | .load t x => bif R.tq.contains i then ⟨fun _ _ _ _ _ => none⟩ else ⟨fun c b e h n => ob ((fLoad C.P t x).f e h) fun v => (cPut nt k o.dst).f v c b e h n⟩
    | op => match fM C.P op with
      | some g => bif lvOk R i (lvOf op) then (bif Nat.beq R.K 0
          then ⟨fun c b e h n => ob (g.f b e n h) fun r => Prod.rec (motive := fun _ => Option β) (fun v h' => frcN (fun n' => (cPut nt k o.dst).f v c b e h' n') (Nat.succ n)) r⟩
          else ⟨fun c b e h n => frcN (fun m => ob (g.f b e m h) fun r => Prod.rec (motive := fun _ => Option β) (fun v h' => (cPut nt k o.dst).f v c b e h' n) r) (Nat.add n (Nat.mul i R.K))⟩) else ⟨fun _ _ _ _ _ => none⟩
      | none => match callOf op with
        | some (f, xs) => bif R.ef.contains i then (⟨fun c b e h n => ob ((gOs xs).f e) fun l => frcK R.K l fun l => frcN (fun m => ob (c (bo (R.bk.contains i) b h) h m f l) fun r => Prod.rec (motive := fun _ => Option β) (fun v r => Prod.rec (motive := fun _ => Option β) (fun h' n' => (cPut nt k o.dst).f v c b e h' (bo (Nat.beq R.K 0) n' n)) r) r) (Nat.add n (Nat.mul i R.K))⟩)
          else bif R.bk.contains i || R.tq.contains i then ⟨fun _ _ _ _ _ => none⟩
          else ⟨fun c b e h n => ob ((gOs xs).f e) fun l => frcK R.K l fun l => frcN (fun m => ob (c h h m f l) fun r => bo (r.1.idsIn h) ((cPut nt k o.dst).f r.1 c b e h n) none) (Nat.add n (Nat.mul i R.K))⟩
        | none => ⟨fun c b e h n => ob (stepD C c nt b R L i (n + i * R.K) ⟨e, h, n⟩) fun s => St.rec (motive := fun _ => Option β) (fun e h' n' => k.f c b e h' (bo (Nat.beq R.K 0) n' n)) s⟩
noncomputable def dStep {β : Type} (R : RA) (L : List Oper) (i : Nat) (k : Cl (KT β)) : Cl (KT β) := match nth L i with
  | some o => match o.guard with
    | none => dDo C nt R L i o k
    | some (j, w) => match (nth L j).bind (·.dst) with
      | some dj => ⟨fun c b e h n => ob (e.get dj) fun v => bo (isBA w v) ((dDo C nt R L i o k).f c b e h n) ((cPut nt k o.dst).f (.val undef) c b e h n)⟩
      | none => ⟨fun _ _ _ _ _ => none⟩
  | none => ⟨fun _ _ _ _ _ => none⟩
noncomputable def endS : Cl (KT St) := ⟨fun _ _ e h n => some ⟨e, h, n⟩⟩
noncomputable def sameF (eqS : St → St → Bool) (t : St) (l : List (Cl (KT St))) : KT Bool := List.rec (motive := fun _ => KT Bool) (fun _ _ _ _ _ => some true) (fun x _ ih c b e h n => ob (x.f c b e h n) fun u => bo (eqS t u) (ih c b e h n) none) l
noncomputable def forkF (eqS : St → St → Bool) : List (Cl (KT St)) → Cl (KT St)
  | [] => ⟨fun _ _ _ _ _ => none⟩
  | x :: l => ⟨fun c b e h n => ob (x.f c b e h n) fun t => ob (sameF eqS t l c b e h n) fun _ => some t⟩
noncomputable def dSq (eqS : St → St → Bool) (R : RA) (L : List Oper) : Sq → Cl (KT St)
  | .nil => endS
  | .cons i l => dStep C nt R L i (dSq eqS R L l)
  | .fork ks f => forkF eqS (ks.map fun k => dStep C nt R L k (dSq eqS R L (f k)))
noncomputable def dRg {β : Type} (eqS : St → St → Bool) (fn id : Nat) (ops : Array Oper) (k : Cl (KT β)) : Cl (KT β) := match C.an fn id with
  | some R => bif chk ops (Sq.behind R.pre R.s) R.ef R.bk R.tq then
      ⟨fun c b e h n => (qOps C nt ops.toList ⟨fun U c b e h n => ob (addU h U b) fun b' => ob ((dSq C nt eqS R ops.toList R.s).f c b' e h n) fun s => St.rec (motive := fun _ => Option β) (fun e h n => frcN (fun n => k.f c b e h n) (Nat.add n (Nat.mul ops.size R.K))) s⟩ R.pre).f [] c b e h n⟩
    else ⟨fun _ _ _ _ _ => none⟩
  | none => ⟨fun _ _ _ _ _ => none⟩
/-! ### Code -/
noncomputable def endK : Cl (KT Xt) := ⟨fun _ _ e h n => some (.nrm ⟨e, h, n⟩)⟩
noncomputable def thenF (k : EnvT → Heap → Nat → Option Xt) (r : Option Xt) : Option Xt := ob r fun x => Xt.rec (motive := fun _ => Option Xt) (fun s => St.rec (motive := fun _ => Option Xt) k s) (fun i s => some (.ext i s)) (fun i s => some (.gto i s)) (fun s => some (.ret s)) x
noncomputable def blockF (id : Nat) (k : EnvT → Heap → Nat → Option Xt) (r : Option Xt) : Option Xt := ob r fun x => Xt.rec (motive := fun _ => Option Xt) (fun s => St.rec (motive := fun _ => Option Xt) k s) (fun i s => bo (Nat.beq i id) (St.rec (motive := fun _ => Option Xt) k s) (some (.ext i s))) (fun i s => some (.gto i s)) (fun s => some (.ret s)) x
noncomputable def loopF (body : Cl (KT Xt)) (k : Cl (KT Xt)) : Nat → KT Xt := fun n => Nat.rec (motive := fun _ => KT Xt) (fun _ _ _ _ _ => none) (fun _ ih c b e h n => thenF (ih c b) (body.f c b e h n)) n
variable (eqS : St → St → Bool) (fn : Nat)
noncomputable def cK (prev : Code → Cl (KT Xt)) : Code → Cl (KT Xt) → Cl (KT Xt)
  | .skip, k => k
  | .label _, k => k
  | .region id ops d, k => match d with
    | false => cOps C nt ops.toList k ops.toList
    | true => dRg C nt eqS fn id ops k
  | .seq x y, k => cK prev x (cK prev y k)
  | .cond o x y, k => ⟨fun c b e h n => ob ((gO o).f e) fun v => onB v fun t => bo t ((cK prev x k).f c b e h n) ((cK prev y k).f c b e h n)⟩
  | .block id x, k => ⟨fun c b e h n => blockF id (k.f c b) ((cK prev x endK).f c b e h n)⟩
  | .loop x, _ => ⟨fun c b e h n => loopF (cK prev x endK) endK 1000000 c b e h n⟩
  | .exit id, _ => ⟨fun _ _ e h n => some (.ext id ⟨e, h, n⟩)⟩
  | .goto l, _ => ⟨fun _ _ e h n => some (.gto l ⟨e, h, n⟩)⟩
  | .scope x, k => ⟨fun c b e h n => thenF (k.f c b) (scopeX (fun cd s => (prev cd).f c b s.env s.h s.nx) x ((cK prev x endK).f c b e h n))⟩
  | .ret, _ => ⟨fun _ _ e h n => some (.ret ⟨e, h, n⟩)⟩
  | _, _ => ⟨fun _ _ _ _ _ => none⟩
noncomputable def cC : Nat → Code → Cl (KT Xt)
  | 0 => fun _ => ⟨fun _ _ _ _ _ => none⟩
  | n + 1 => fun c => cK C nt eqS fn (cC n) c endK
end
/-! ### Calls -/
noncomputable def rsF (P : Program) : ResultVar → Cl (EnvT → Heap → Option AV)
  | .tmp t => ⟨fun e _ => e.get t⟩
  | .cell a t => ⟨fun e h => (fLoad P t (.tmp a)).f e h⟩
noncomputable def rlF (P : Program) : List ResultVar → Cl (EnvT → Heap → Option (List AV))
  | [] => ⟨fun _ _ => some []⟩
  | x :: r => ⟨fun e h => ob ((rsF P x).f e h) fun v => ob ((rlF P r).f e h) fun l => some (v :: l)⟩
noncomputable def raF (P : Program) (l : List ResultVar) : Cl (EnvT → Heap → Option AV) := match l with
  | [x] => rsF P x
  | l => ⟨fun e h => ob ((rlF P l).f e h) fun l => some (.tup l)⟩
noncomputable def endF (P : Program) (rs : List ResultVar) (r : Option Xt) : Option (AV × Heap × Nat) := ob r fun x => Xt.rec (motive := fun _ => Option (AV × Heap × Nat))
  (fun s => St.rec (motive := fun _ => Option (AV × Heap × Nat)) (fun e h n => ob ((raF P rs).f e h) fun v => some (v, h, n)) s) (fun _ _ => none) (fun _ _ => none)
  (fun s => St.rec (motive := fun _ => Option (AV × Heap × Nat)) (fun e h n => ob ((raF P rs).f e h) fun v => some (v, h, n)) s) x
abbrev FT := CallT → Heap → Heap → Nat → List AV → Option (AV × Heap × Nat)
noncomputable def cF (C : Mch) (eqS : St → St → Bool) (f : Nat) : Cl FT := match C.hk f with
  | some g => ⟨fun _ hb h nx args => g hb h nx args⟩
  | none => bif C.ok f then (match C.P.funcs[f]? with
    | some fn => match fn.body with
      | some cd => ⟨fun c hb h nx args => bo (Nat.ble args.length fn.ntmps) (ob (envOf args 0 EnvT.nil) fun env => endF C.P fn.results.toList ((cC C fn.ntmps eqS f 3 cd).f c hb env h nx)) none⟩
      | none => ⟨fun _ _ _ _ _ => none⟩
    | none => ⟨fun _ _ _ _ _ => none⟩) else ⟨fun _ _ _ _ _ => none⟩
noncomputable def gF (C : Mch) (eqS : St → St → Bool) (d : Nat) : CallT := Nat.rec (motive := fun _ => CallT) (fun _ _ _ _ _ => none) (fun _ ih hb h nx f args => (cF C eqS f).f ih hb h nx args) d
end Go.PK

/-
  EF, part 2: the closures yield what the machine yields: lists, values, numbers, operations that only yield.
-/
namespace Go.PK
theorem ob_inv {α β : Type} {x : Option α} {k : α → Option β} {r : β} (h : ob x k = some r) : ∃ v, x = some v ∧ k v = some r := by
  cases x with
  | none => cases h
  | some v => exact ⟨v, rfl, h⟩
theorem bo_inv {β : Type} {b : Bool} {x : Option β} {r : β} (h : bo b x none = some r) : b = true ∧ x = some r := by
  cases b with
  | false => cases h
  | true => exact ⟨rfl, h⟩
theorem bo_cases {β : Type} {b : Bool} {x y r : β} (h : bo b x y = r) : (b = true ∧ x = r) ∨ (b = false ∧ y = r) := by
  cases b with
  | false => exact .inr ⟨rfl, h⟩
  | true => exact .inl ⟨rfl, h⟩
theorem dropC_eq : ∀ (n : Nat) (l : List AV), (dropC n).f l = l.drop n
  | 0, _ => rfl
  | _ + 1, [] => rfl
  | n + 1, _ :: t => dropC_eq n t
theorem takeC_eq : ∀ (n : Nat) (l : List AV), (takeC n).f l = takeL l n
  | 0, l => by cases l <;> rfl
  | _ + 1, [] => rfl
  | n + 1, x :: t => by
    show ob ((takeC n).f t) (fun r => some (x :: r)) = (takeL t n).map (x :: ·)
    rw [takeC_eq n t]
    cases takeL t n <;> rfl
theorem nthC_eq : ∀ (n : Nat) (l : List AV), (nthC n).f l = l[n]?
  | 0, [] => rfl
  | 0, _ :: _ => rfl
  | _ + 1, [] => rfl
  | n + 1, _ :: t => by
    show (nthC n).f t = _
    rw [nthC_eq n t]; simp
theorem isOneF_eq (v : AV) : isOneF v = v.isOne := by cases v <;> rfl
theorem onesC_ok : ∀ (n : Nat) (l : List AV), (onesC n).f l = true → l.length = n ∧ l.all AV.isOne = true
  | 0, [], _ => ⟨rfl, rfl⟩
  | 0, _ :: _, h => by cases h
  | _ + 1, [], h => by cases h
  | n + 1, x :: t, h => by
    have h : bo (isOneF x) ((onesC n).f t) false = true := h
    rcases bo_cases h with ⟨h1, h2⟩ | ⟨_, h2⟩
    · obtain ⟨q1, q2⟩ := onesC_ok n t h2
      rw [isOneF_eq] at h1
      exact ⟨by rw [List.length_cons, q1], by rw [List.all_cons, h1, q2]; rfl⟩
    · cases h2
theorem lenC_ok : ∀ (n : Nat) (l : List AV), (lenC n).f l = true → l.length = n
  | 0, [], _ => rfl
  | 0, _ :: _, h => by cases h
  | _ + 1, [], h => by cases h
  | n + 1, _ :: t, h => by rw [List.length_cons, lenC_ok n t h]
theorem overL_ok : ∀ (vs cs r : List AV), overL vs cs = some r → vs.length ≤ cs.length ∧ r = splA cs 0 vs
  | [], cs, r, h => by
    have : cs = r := Option.some.inj h
    subst this
    exact ⟨Nat.zero_le _, by cases cs <;> rfl⟩
  | v :: vs, [], r, h => by cases h
  | v :: vs, c :: t, r, h => by
    obtain ⟨q, h1, h2⟩ := ob_inv (show ob (overL vs t) (fun r => some (v :: r)) = some r from h)
    obtain ⟨q1, q2⟩ := overL_ok vs t q h1
    cases h2
    exact ⟨by simp only [List.length_cons]; omega, by rw [q2]; rfl⟩
theorem splC_ok : ∀ (n : Nat) (vs cs r : List AV), (splC n).f vs cs = some r → n + vs.length ≤ cs.length ∧ r = splA cs n vs
  | 0, vs, cs, r, h => by
    obtain ⟨q1, q2⟩ := overL_ok vs cs r h
    exact ⟨by omega, q2⟩
  | n + 1, vs, [], r, h => by cases h
  | n + 1, vs, c :: t, r, h => by
    obtain ⟨q, h1, h2⟩ := ob_inv (show ob ((splC n).f vs t) (fun r => some (c :: r)) = some r from h)
    obtain ⟨q1, q2⟩ := splC_ok n vs t q h1
    cases h2
    exact ⟨by simp only [List.length_cons]; omega, by rw [q2]; rfl⟩
theorem cellsF_eq (v : AV) : cellsF v = v.cells := by cases v <;> rfl
theorem allOneL_eq : ∀ (l : List AV), allOneL l = l.all AV.isOne
  | [] => rfl
  | x :: t => by
    show bo (isOneF x) (allOneL t) false = _
    rw [isOneF_eq, allOneL_eq t, List.all_cons]
    cases x.isOne <;> rfl
theorem appL_eq : ∀ (l m : List AV), appL l m = l ++ m
  | [], _ => rfl
  | x :: t, m => by
    show x :: appL t m = _
    rw [appL_eq t m]; rfl
theorem gO_eq (x : Operand) (e : EnvT) : (gO x).f e = evO e x := by
  cases x with
  | tmp t =>
    show (bif Nat.blt t 512 then EnvT.gE t else ⟨fun _ => none⟩ : Cl (EnvT → Option AV)).f e = EnvT.get e t
    unfold EnvT.get
    cases Nat.blt t 512 <;> rfl
  | _ => rfl
theorem gOs_eq : ∀ (l : List Operand) (e : EnvT), (gOs l).f e = evsA e l
  | [], _ => rfl
  | x :: r, e => by
    show ob ((gO x).f e) (fun v => ob ((gOs r).f e) fun l => some (v :: l)) = _
    rw [gO_eq, gOs_eq r e]
    show _ = (match evO e x, evsA e r with
      | some v, some vs => some (v :: vs)
      | _, _ => none)
    cases evO e x <;> cases evsA e r <;> rfl
section
variable {β : Type} {v : AV} {r : β}
theorem onVal_inv {k : Value → Option β} (h : onVal v k = some r) : ∃ w, v = .val w ∧ k w = some r := by cases v <;> first | exact ⟨_, rfl, h⟩ | cases h
theorem onPtr_inv {k : Nat → Nat → Option β} (h : onPtr v k = some r) : ∃ i o, v = .ptr i o ∧ k i o = some r := by cases v <;> first | exact ⟨_, _, rfl, h⟩ | cases h
theorem onAgg_inv {k : List AV → Option β} (h : onAgg v k = some r) : ∃ l, v = .agg l ∧ k l = some r := by cases v <;> first | exact ⟨_, rfl, h⟩ | cases h
theorem onTup_inv {k : List AV → Option β} (h : onTup v k = some r) : ∃ l, v = .tup l ∧ k l = some r := by cases v <;> first | exact ⟨_, rfl, h⟩ | cases h
theorem onSl_inv {k : Nat → Nat → Nat → Bool → Nat → Option β} (h : onSl v k = some r) : ∃ a b c d e, v = .sl a b c d e ∧ k a b c d e = some r := by cases v <;> first | exact ⟨_, _, _, _, _, rfl, h⟩ | cases h
theorem onI_inv {k : IntKind → Int → Option β} (h : onI v k = some r) : ∃ q n, v = .val (.int q n) ∧ k q n = some r := by
  obtain ⟨w, rfl, h⟩ := onVal_inv h
  obtain ⟨⟨q, n⟩, h1, h2⟩ := ob_inv h
  cases w <;> simp [asIV] at h1
  obtain ⟨rfl, rfl⟩ := h1
  exact ⟨_, _, rfl, h2⟩
theorem onB_inv {k : Bool → Option β} (h : onB v k = some r) : ∃ b, v = .val (.bool b) ∧ k b = some r := by
  obtain ⟨w, rfl, h⟩ := onVal_inv h
  obtain ⟨b, h1, h2⟩ := ob_inv h
  cases w <;> simp [asB] at h1
  subst h1
  exact ⟨_, rfl, h2⟩
theorem onNat_inv {n : Int} {k : Nat → Option β} (h : onNat n k = some r) : ∃ m, n = .ofNat m ∧ k m = some r := by
  cases n with
  | ofNat m => exact ⟨m, rfl, h⟩
  | negSucc m => cases h
end
/-! ### Numbers -/
theorem wrap_lim {k : IntKind} {r : Nat} (h : r < lim k) : k.wrap (Int.ofNat r) = Int.ofNat r := by
  unfold IntKind.wrap
  cases k <;> simp [lim, IntKind.bits, IntKind.signed] at * <;> omega
theorem kN_inj {k k' : IntKind} (h : Nat.beq (kN k) (kN k') = true) : k = k' := by cases k <;> cases k' <;> first | rfl | cases h
theorem slowI_ok {op : BinOp} {k k' : IntKind} {m n : Int} {r : AV} (h : slowI op k m k' n = some r) : (ib2 op k m k' n).map AV.val = some r := by
  obtain ⟨v, h1, h2⟩ := ob_inv h
  rw [frc_eq] at h2
  rw [h1]; exact h2
theorem small_ok {k : IntKind} {q : Nat} {x : Option AV} {r : AV} (h : small k q x = some r) : (q < lim k ∧ r = .val (.int k (.ofNat q))) ∨ x = some r := by
  unfold small at h
  rw [frcN_eq] at h
  rcases bo_cases h with ⟨h1, h2⟩ | ⟨_, h2⟩
  · cases h2; exact .inl ⟨Nat.le_of_ble_eq_true h1, rfl⟩
  · exact .inr h2
theorem vB_ok {b : Bool} {r : AV} (h : vB b = some r) : r = .val (.bool b) := by cases b <;> cases h <;> rfl
theorem two_ok {m n : Int} {x r : Option AV} {f : Nat → Nat → Option AV} (h : two m n x f = r) : (∃ a b : Nat, m = .ofNat a ∧ n = .ofNat b ∧ f a b = r) ∨ x = r := by
  cases m <;> cases n <;> first | exact .inl ⟨_, _, rfl, rfl, h⟩ | exact .inr h
theorem fI_ok {op : BinOp} {k k' : IntKind} {m n : Int} {r : AV} (h : (fI op).f k m k' n = some r) : (ib2 op k m k' n).map AV.val = some r := by
  cases op with
  | add =>
    rcases two_ok h with ⟨a, b, rfl, rfl, h⟩ | h
    · rcases small_ok h with ⟨h1, rfl⟩ | h
      · show some (AV.val (.int k (k.wrap (Int.ofNat (Nat.add a b))))) = _
        rw [wrap_lim h1]
      · exact slowI_ok h
    · exact slowI_ok h
  | sub =>
    rcases two_ok h with ⟨a, b, rfl, rfl, h⟩ | h
    · rcases bo_cases h with ⟨h0, h⟩ | ⟨_, h⟩
      · rcases small_ok h with ⟨h1, rfl⟩ | h
        · have hle : b ≤ a := Nat.le_of_ble_eq_true h0
          show some (AV.val (.int k (k.wrap ((a : Int) - (b : Int))))) = _
          rw [show (a : Int) - (b : Int) = Int.ofNat (Nat.sub a b) by rw [Int.ofNat_eq_natCast]; show _ = ((a - b : Nat) : Int); omega, wrap_lim h1]
        · exact slowI_ok h
      · exact slowI_ok h
    · exact slowI_ok h
  | mul =>
    rcases two_ok h with ⟨a, b, rfl, rfl, h⟩ | h
    · rcases small_ok h with ⟨h1, rfl⟩ | h
      · show some (AV.val (.int k (k.wrap (Int.ofNat (Nat.mul a b))))) = _
        rw [wrap_lim h1]
      · exact slowI_ok h
    · exact slowI_ok h
  | quo =>
    rcases two_ok h with ⟨a, b, rfl, rfl, h⟩ | h
    · rcases bo_cases h with ⟨_, h⟩ | ⟨h0, h⟩
      · cases h
      · have hb : b ≠ 0 := fun e => by subst e; cases h0
        rcases small_ok h with ⟨h1, rfl⟩ | h
        · have hd : decide ((Int.ofNat b) = 0) = false := decide_eq_false (by simpa using hb)
          show ((bif decide ((Int.ofNat b) = 0) then none else some (Value.int k (k.wrap ((Int.ofNat a).tdiv (Int.ofNat b))))).map AV.val) = _
          rw [hd]
          show some (AV.val (.int k (k.wrap (Int.ofNat (Nat.div a b))))) = _
          rw [wrap_lim h1]
        · exact slowI_ok h
    · exact slowI_ok h
  | rem =>
    rcases two_ok h with ⟨a, b, rfl, rfl, h⟩ | h
    · rcases bo_cases h with ⟨_, h⟩ | ⟨h0, h⟩
      · cases h
      · have hb : b ≠ 0 := fun e => by subst e; cases h0
        rcases small_ok h with ⟨h1, rfl⟩ | h
        · have hd : decide ((Int.ofNat b) = 0) = false := decide_eq_false (by simpa using hb)
          show ((bif decide ((Int.ofNat b) = 0) then none else some (Value.int k ((Int.ofNat a).tmod (Int.ofNat b)))).map AV.val) = _
          rw [hd]; rfl
        · exact slowI_ok h
    · exact slowI_ok h
  | eql =>
    rcases two_ok h with ⟨a, b, rfl, rfl, h⟩ | h
    · rw [vB_ok h]
      show some (AV.val (.bool (Int.ofNat a == Int.ofNat b))) = _
      congr 3
      cases hb : Nat.beq a b with
      | true => rw [Nat.eq_of_beq_eq_true hb]; simp
      | false =>
        have := Nat.ne_of_beq_eq_false hb
        rw [beq_eq_false_iff_ne]; intro e; exact this (Int.ofNat.inj e)
    · exact slowI_ok h
  | neq =>
    rcases two_ok h with ⟨a, b, rfl, rfl, h⟩ | h
    · rw [vB_ok h]
      show some (AV.val (.bool (Int.ofNat a != Int.ofNat b))) = _
      congr 3
      cases hb : Nat.beq a b with
      | true => rw [Nat.eq_of_beq_eq_true hb]; simp [bo]
      | false =>
        have := Nat.ne_of_beq_eq_false hb
        have : (Int.ofNat a == Int.ofNat b) = false := by rw [beq_eq_false_iff_ne]; intro e; exact this (Int.ofNat.inj e)
        rw [bne, this]; rfl
    · exact slowI_ok h
  | lss =>
    rcases two_ok h with ⟨a, b, rfl, rfl, h⟩ | h
    · rw [vB_ok h]
      show some (AV.val (.bool (decide (Int.ofNat a < Int.ofNat b)))) = _
      congr 3
      rw [show Nat.blt a b = decide (a < b) from by rw [Bool.eq_iff_iff]; simp]
      exact decide_eq_decide.2 (by simp)
    · exact slowI_ok h
  | leq =>
    rcases two_ok h with ⟨a, b, rfl, rfl, h⟩ | h
    · rw [vB_ok h]
      show some (AV.val (.bool (decide (Int.ofNat a ≤ Int.ofNat b)))) = _
      congr 3
      rw [show Nat.ble a b = decide (a ≤ b) from by rw [Bool.eq_iff_iff]; simp]
      exact decide_eq_decide.2 (by simp)
    · exact slowI_ok h
  | gtr =>
    rcases two_ok h with ⟨a, b, rfl, rfl, h⟩ | h
    · rw [vB_ok h]
      show some (AV.val (.bool (decide (Int.ofNat a > Int.ofNat b)))) = _
      congr 3
      rw [show Nat.blt b a = decide (b < a) from by rw [Bool.eq_iff_iff]; simp]
      exact decide_eq_decide.2 (by simp)
    · exact slowI_ok h
  | geq =>
    rcases two_ok h with ⟨a, b, rfl, rfl, h⟩ | h
    · rw [vB_ok h]
      show some (AV.val (.bool (decide (Int.ofNat a ≥ Int.ofNat b)))) = _
      congr 3
      rw [show Nat.ble b a = decide (b ≤ a) from by rw [Bool.eq_iff_iff]; simp]
      exact decide_eq_decide.2 (by simp)
    · exact slowI_ok h
  | _ => exact slowI_ok h
/-! ### Operations that only yield -/
section
variable {P : Program} {t : TypeId} {x y z : Operand} {e : EnvT} {v : AV} {op : Op}
theorem fld_ok {off : Nat} {l : List AV} (h : (fld P t off).f l = some v) : partA P t l off = some v := by
  unfold fld at h
  unfold partA
  split at h
  · next d i hd hi =>
    rw [hd, hi]
    dsimp only
    cases ha : aggD d with
    | true =>
      rw [ha] at h
      obtain ⟨r, h1, h2⟩ := ob_inv (show ob ((takeC i.size).f ((dropC off).f l)) (fun r => some (AV.agg r)) = some v from h)
      rw [takeC_eq, dropC_eq] at h1
      cases h2
      rw [(takeL_eq h1).1]; rfl
    | false =>
      rw [ha] at h
      rw [← nthC_eq]; exact h
  · cases h
theorem fFA_ok {j : Nat} (h : (fFA P t x j).f e = some v) : evFA P t x j e = some v := by
  unfold fFA at h
  split at h
  · next fs hd =>
    split at h
    · next f hf =>
      split at h
      · next i hi =>
        cases hz : Nat.beq i.size 0 with
        | true => rw [hz] at h; cases h
        | false =>
          rw [hz] at h
          obtain ⟨u, h1, h2⟩ := ob_inv (show ob ((gO x).f e) _ = some v from h)
          obtain ⟨id, off, rfl, h3⟩ := onPtr_inv h2
          rw [gO_eq] at h1
          rw [frcN_eq] at h3
          simp only [evFA, hd, h1, hf, hi, hz]
          exact h3
      · cases h
    · cases h
  · cases h
theorem fFd_ok {j : Nat} (h : (fFd P t x j).f e = some v) : evField P t x j e = some v := by
  unfold fFd at h
  split at h
  · next fs hd =>
    split at h
    · next f hf =>
      obtain ⟨u, h1, h2⟩ := ob_inv (show ob ((gO x).f e) _ = some v from h)
      obtain ⟨l, rfl, h3⟩ := onAgg_inv h2
      rw [gO_eq] at h1
      simp only [evField, hd, h1, hf]
      exact fld_ok h3
    · cases h
  · cases h
theorem fIA_ok (h : (fIA P t x y).f e = some v) : evIA P t x y e = some v := by
  unfold fIA at h
  split at h
  · next el hd =>
    split at h
    · next i hi =>
      obtain ⟨u, h1, h2⟩ := ob_inv (show ob ((gO x).f e) _ = some v from h)
      obtain ⟨id, off, len, k, c, rfl, h2⟩ := onSl_inv h2
      obtain ⟨w, h3, h4⟩ := ob_inv h2
      obtain ⟨k2, m, rfl, h4⟩ := onI_inv h4
      obtain ⟨j, rfl, h4⟩ := onNat_inv h4
      obtain ⟨h5, h6⟩ := bo_inv h4
      rw [gO_eq] at h1 h3
      rw [frcN_eq] at h6
      simp only [evIA, hd, h1, h3, hi, h5]
      exact h6
    · cases h
  · next n el hd =>
    split at h
    · next i hi =>
      obtain ⟨u, h1, h2⟩ := ob_inv (show ob ((gO x).f e) _ = some v from h)
      obtain ⟨id, off, rfl, h2⟩ := onPtr_inv h2
      obtain ⟨w, h3, h4⟩ := ob_inv h2
      obtain ⟨k2, m, rfl, h4⟩ := onI_inv h4
      obtain ⟨j, rfl, h4⟩ := onNat_inv h4
      obtain ⟨h5, h6⟩ := bo_inv h4
      rw [gO_eq] at h1 h3
      rw [frcN_eq] at h6
      simp only [evIA, hd, h1, h3, hi, h5]
      exact h6
    · cases h
  · cases h
theorem fCv_ok {s d : TypeId} (h : (fCv P s d x).f e = some v) : evConv P s d x e = some v := by
  unfold fCv at h
  split at h
  · next k0 k' hs hd =>
    obtain ⟨u, h1, h2⟩ := ob_inv (show ob ((gO x).f e) _ = some v from h)
    obtain ⟨k2, m, rfl, h3⟩ := onI_inv h2
    rw [gO_eq] at h1
    simp only [evConv, hs, hd, h1]
    cases m with
    | ofNat a =>
      rcases bo_cases (show bo (Nat.blt a (lim k')) _ _ = some v from h3) with ⟨h4, h5⟩ | ⟨_, h5⟩
      · cases h5
        rw [wrap_lim (Nat.le_of_ble_eq_true h4)]
      · rw [frc_eq] at h5; exact h5
    | negSucc a =>
      have h3 : frc (.val (.int k' (k'.wrap (.negSucc a)))) some = some v := h3
      rw [frc_eq] at h3; exact h3
  · exact h
theorem fBin_ok {bop : BinOp} (h : (fBin P bop t x y).f e = some v) : evBin P bop t x y e = some v := by
  unfold fBin at h
  split at h
  · obtain ⟨u, h1, h2⟩ := ob_inv (show ob ((gO x).f e) _ = some v from h)
    obtain ⟨w, h3, h4⟩ := ob_inv h2
    obtain ⟨k, m, rfl, h5⟩ := onI_inv h4
    obtain ⟨k', n, rfl, h6⟩ := onI_inv h5
    obtain ⟨h7, h8⟩ := bo_inv h6
    rw [gO_eq] at h1 h3
    simp only [evBin, h1, h3, asI]
    have hk : (shOp bop || decide (k = k')) = true := by
      rw [Bool.or_eq_true] at h7 ⊢
      rcases h7 with h7 | h7
      · exact .inl h7
      · exact .inr (decide_eq_true (kN_inj h7))
    rw [hk]
    exact fI_ok h8
  · exact h
theorem fNil_ok (h : (fNil x).f e = some v) : evNil x e = some v := by
  obtain ⟨u, h1, h2⟩ := ob_inv (show ob ((gO x).f e) _ = some v from h)
  rw [gO_eq] at h1
  cases u with
  | val w =>
    obtain ⟨p, h3, h4⟩ := ob_inv (show ob (asP w) (fun _ => some (AV.val w)) = some v from h2)
    cases w <;> simp [asP] at h3
    subst h3
    simp only [evNil, h1]; exact h4
  | ptr i o => simp only [evNil, h1]; exact h2
  | _ => cases h2
theorem fUn_ok {u : UnOp} (h : (fUn u x).f e = some v) : evUn u x e = some v := by
  unfold fUn at h
  split at h
  · obtain ⟨w, h1, h2⟩ := ob_inv (show ob ((gO x).f e) _ = some v from h)
    obtain ⟨b, rfl, h3⟩ := onB_inv h2
    rw [gO_eq] at h1
    simp only [evUn, h1]
    cases b <;> exact h3
  · obtain ⟨w, h1, h2⟩ := ob_inv (show ob (evUn u x e) (fun v => frc v some) = some v from h)
    rw [frc_eq] at h2; rw [h1]; exact h2
theorem fIx_ok (h : (fIx P t x y).f e = some v) : evIx P t x y e = some v := by
  unfold fIx at h
  split at h
  · next n el hd =>
    split at h
    · next i hi =>
      obtain ⟨u, h1, h2⟩ := ob_inv (show ob ((gO x).f e) _ = some v from h)
      obtain ⟨l, rfl, h2⟩ := onAgg_inv h2
      obtain ⟨w, h3, h4⟩ := ob_inv h2
      obtain ⟨k2, m, rfl, h4⟩ := onI_inv h4
      obtain ⟨j, rfl, h4⟩ := onNat_inv h4
      obtain ⟨h5, h6⟩ := bo_inv h4
      rw [gO_eq] at h1 h3
      simp only [evIx, hd, h1, h3, hi, h5]
      exact fld_ok h6
    · cases h
  · exact h
theorem fillC_ok {place : Nat → Option (Nat × Nat)} : ∀ (ps : List (Nat × Operand)) (cs r : List AV), (fillC place ps).f e cs = some r → ∃ vs, partsA e ps = some vs ∧ fillA place cs vs = some r
  | [], cs, r, h => ⟨[], rfl, h⟩
  | (j, x) :: ps, cs, r, h => by
    unfold fillC at h
    split at h
    · next off size hp =>
      obtain ⟨v, h1, h2⟩ := ob_inv (show ob ((gO x).f e) _ = some r from h)
      obtain ⟨h3, h4⟩ := bo_inv h2
      obtain ⟨q, h5, h6⟩ := ob_inv h4
      rw [gO_eq] at h1
      rw [cellsF_eq] at h3 h5
      obtain ⟨q1, q2⟩ := splC_ok _ _ _ _ h5
      obtain ⟨vs, g1, g2⟩ := fillC_ok ps q r h6
      refine ⟨(j, v) :: vs, by simp only [partsA, h1, g1], ?_⟩
      unfold fillA
      rw [hp]
      dsimp only
      rw [lenC_ok _ _ h3, Nat.beq_refl, ← lenC_ok _ _ h3, Nat.ble_eq_true_of_le q1, ← q2]
      exact g2
    · cases h
theorem fBuild_ok {ps : List (Nat × Operand)} (h : (fBuild P t ps).f e = some v) : evBuild P t ps e = some v := by
  unfold fBuild at h
  split at h
  · next d i hd hi =>
    split at h
    · next z pl hz hpl =>
      obtain ⟨r, h1, h2⟩ := ob_inv (show ob ((fillC pl ps).f e (AV.val z).cells) _ = some v from h)
      obtain ⟨vs, g1, g2⟩ := fillC_ok ps _ r h1
      cases h2
      simp only [evBuild, hd, hi, g1, hz, hpl, g2, Option.map_some]
    · cases h
  · cases h
theorem fP_ok {g : Cl PT} (hg : fP P op = some g) (h : g.f e = some v) : evP P op e = some v := by
  unfold fP at hg
  split at hg
  · cases hg; rw [gO_eq] at h; exact h
  · cases hg; rw [gO_eq] at h; exact h
  · cases hg
    obtain ⟨u, h1, h2⟩ := ob_inv h
    obtain ⟨b, rfl, h3⟩ := onB_inv h2
    rw [gO_eq] at h1
    simp only [evP, evPick, h1]
    rw [gO_eq, gO_eq] at h3
    cases b <;> exact h3
  · cases hg; exact fNil_ok h
  · cases hg
    obtain ⟨u, h1, h2⟩ := ob_inv h
    obtain ⟨l, rfl, h3⟩ := onTup_inv h2
    rw [gO_eq] at h1
    simp only [evP, evExt, h1]
    rw [← nthC_eq]; exact h3
  · cases hg; exact fUn_ok h
  · next bop t x y _ =>
    cases hf : isFlat P t with
    | true => rw [hf] at hg; cases hg
    | false => rw [hf] at hg; cases hg; exact fBin_ok h
  · cases hg; exact fCv_ok h
  · cases hg; exact fFd_ok h
  · cases hg; exact fFA_ok h
  · cases hg; exact fIA_ok h
  · cases hg; exact h
  · cases hg; exact fIx_ok h
  · cases hg; exact fBuild_ok h
  all_goals first
    | (cases hg
       obtain ⟨u, h1, h2⟩ := ob_inv h
       rw [frc_eq] at h2
       show evCall P _ e = _
       rw [h1]; exact h2)
    | cases hg
end
end Go.PK

/-
  EF, part 3: the closures do what the machine does: operations of memory.
-/
namespace Go.PK
section
variable {P : Program} {t : TypeId} {x y z : Operand} {e : EnvT} {v : AV} {op : Op} {h h' hb : Heap} {id : Nat} {b : Blk} {r : AV × Heap}
theorem rowF_eq (b : Blk) : rowF b = b.row := by cases b <;> rfl
theorem turnF_eq : turnF hb id b v h = turnB hb id b v h := by
  unfold turnF turnB
  cases hb.get id with
  | none => show ob (h.set b id) _ = _; cases h.set b id <;> rfl
  | some _ => rfl
theorem newF_eq : newF id b v h = newB id b v h := by
  unfold newF newB
  cases h.get id with
  | none => show ob (h.set b id) _ = _; cases h.set b id <;> rfl
  | some _ => rfl
theorem loadF_ok {off : Nat} (hl : (loadF P t).f id off h = some v) : loadA P t id off h = some v := by
  unfold loadF at hl
  split at hl
  · next d i hd hi =>
    cases ha : aggD d with
    | true =>
      rw [ha] at hl
      obtain ⟨b, h1, h2⟩ := ob_inv (show ob (h.get id) _ = some v from hl)
      obtain ⟨l, h3, h4⟩ := ob_inv h2
      obtain ⟨q, h5, h6⟩ := ob_inv h4
      rw [rowF_eq] at h3
      rw [takeC_eq, dropC_eq] at h5
      cases h6
      simp only [loadA, h1, Option.bind_some, h3, hd, hi, ha, cond_true, h5, Option.map_some]
    | false =>
      rw [ha] at hl
      obtain ⟨b, h1, h2⟩ := ob_inv (show ob (h.get id) _ = some v from hl)
      obtain ⟨l, h3, h4⟩ := ob_inv h2
      rw [rowF_eq] at h3
      rw [nthC_eq] at h4
      simp only [loadA, h1, Option.bind_some, h3, hd, hi, ha, cond_false, h4]
  · cases hl
theorem fLoad_ok (hl : (fLoad P t x).f e h = some v) : evLoad P t x e h = some v := by
  have key : ∀ u, evO e x = some u → (onPtr u fun id off => (loadF P t).f id off h) = some v → evLoad P t x e h = some v := fun u h1 h2 => by
    obtain ⟨id, off, rfl, h3⟩ := onPtr_inv h2
    simp only [evLoad, h1]
    exact loadF_ok h3
  unfold fLoad at hl
  unfold loadF at key
  split at hl
  · next d i hd hi =>
    rw [hd, hi] at key
    dsimp only at key
    cases ha : aggD d with
    | true =>
      rw [ha] at hl key
      obtain ⟨u, h1, h2⟩ := ob_inv (show ob ((gO x).f e) _ = some v from hl)
      rw [gO_eq] at h1
      exact key u h1 h2
    | false =>
      rw [ha] at hl key
      obtain ⟨u, h1, h2⟩ := ob_inv (show ob ((gO x).f e) _ = some v from hl)
      rw [gO_eq] at h1
      exact key u h1 h2
  · cases hl
theorem fStore_ok {n : Nat} (hs : (fStore P t x y).f hb e n h = some r) : evStore P hb t x y e h = some r := by
  unfold fStore at hs
  split at hs
  · next i hi =>
    obtain ⟨u, h1, h2⟩ := ob_inv (show ob ((gO x).f e) _ = some r from hs)
    obtain ⟨id, off, rfl, h2⟩ := onPtr_inv h2
    obtain ⟨w, h3, h4⟩ := ob_inv h2
    obtain ⟨h5, h6⟩ := bo_inv h4
    obtain ⟨b, h7, h8⟩ := ob_inv h6
    rw [gO_eq] at h1 h3
    rw [cellsF_eq] at h5
    obtain ⟨q1, q2⟩ := onesC_ok _ _ h5
    simp only [evStore, h1, h3, hi]
    rw [q1, Nat.beq_refl, q2, h7]
    cases b with
    | cells T l =>
      obtain ⟨q, h9, h10⟩ := ob_inv (show ob ((splC off).f (cellsF w) l) _ = some r from h8)
      rw [cellsF_eq] at h9
      obtain ⟨g1, g2⟩ := splC_ok _ _ _ _ h9
      rw [turnF_eq, g2] at h10
      rw [q1] at g1
      show (bif Nat.ble (off + i.size) l.length then _ else none) = _
      rw [Nat.ble_eq_true_of_le g1]
      exact h10
    | own T sz n l =>
      obtain ⟨q, h9, h10⟩ := ob_inv (show ob ((splC off).f (cellsF w) l) _ = some r from h8)
      rw [cellsF_eq] at h9
      obtain ⟨g1, g2⟩ := splC_ok _ _ _ _ h9
      rw [turnF_eq, g2] at h10
      rw [q1] at g1
      show (bif Nat.ble (off + i.size) l.length then _ else none) = _
      rw [Nat.ble_eq_true_of_le g1]
      exact h10
    | _ => cases h8
  · cases hs
theorem fAlloc_ok (hs : (fAlloc P t).f hb e id h = some r) : evAlloc P t id h = some r := by
  unfold fAlloc at hs
  unfold evAlloc
  split at hs
  · next l hl => rw [hl]; exact newF_eq.symm.trans hs
  · cases hs
theorem fBox_ok (hs : (fBox t x).f hb e id h = some r) : evBox t x e id h = some r := by
  obtain ⟨u, h1, h2⟩ := ob_inv (show ob ((gO x).f e) _ = some r from hs)
  rw [gO_eq] at h1
  rw [newF_eq, cellsF_eq] at h2
  simp only [evBox, h1]; exact h2
theorem fBuildS_ok {len : Nat} {ps : List (Nat × Operand)} (hs : (fBuildS P t len ps).f hb e id h = some r) : evBuildS P t len ps e id h = some r := by
  unfold fBuildS at hs
  split at hs
  · next el hd =>
    split at hs
    · next i zz hi hz =>
      cases hc : (Nat.blt 0 i.size && Nat.ble (len * i.size) 16777216 && Nat.beq zz.length i.size) with
      | false => rw [hc] at hs; cases hs
      | true =>
        rw [hc] at hs
        obtain ⟨cs, h1, h2⟩ := ob_inv (show ob ((fillC (fun j => some (j * i.size, i.size)) ps).f e (repA zz len)) _ = some r from hs)
        obtain ⟨vs, g1, g2⟩ := fillC_ok ps _ cs h1
        rw [newF_eq] at h2
        simp only [evBuildS, hd, hi, hz, g1, g2, hc]
        exact h2
    · cases hs
  · cases hs
theorem rowC_ok {sz : Nat} {u : AV} {p : Nat × List AV} (hs : rowC sz u h = some p) : rowA sz u h = some p := by
  cases u with
  | val w => exact hs
  | sl id off len k c =>
    obtain ⟨b, h1, h2⟩ := ob_inv (show ob (h.get id) _ = some p from hs)
    obtain ⟨l, h3, h4⟩ := ob_inv h2
    obtain ⟨q, h5, h6⟩ := ob_inv h4
    rw [rowF_eq] at h3
    rw [takeC_eq, dropC_eq] at h5
    cases h6
    have h5 : takeL (l.drop off) (len * sz) = some q := h5
    simp only [rowA, h1, Option.bind_some, h3, h5, Option.map_some]
  | tail _ _ _ _ _ => exact hs
  | _ => cases hs
theorem appF_ok {el size n m : Nat} {u : AV} {xs ys : List AV} (hs : appF hb el size id h u n xs m ys = some r) : appA hb el size id h u n xs m ys = some r := by
  unfold appF at hs
  unfold appA
  split at hs
  · rw [newF_eq] at hs; exact hs
  · next id0 off len k c =>
    cases hm : Nat.beq m 0 with
    | true => rw [hm] at hs; exact hs
    | false =>
      rw [hm] at hs
      simp only [cond_false, frcN_eq] at hs ⊢
      cases hg : h.get id0 with
      | none => rw [hg] at hs; cases hs
      | some b =>
        rw [hg] at hs
        cases b with
        | own T sz n0 l =>
          dsimp only at hs ⊢
          rw [turnF_eq] at hs
          cases hc : (Nat.beq off 0 && (!k && (Nat.beq c 0 && (Nat.beq sz size && decide (T = el))))) with
          | false => rw [hc] at hs; cases hs
          | true =>
            rw [hc] at hs
            simp only [cond_true] at hs ⊢
            split at hs
            · next h1 ht => rw [ht]; rw [newF_eq, appL_eq] at hs; exact hs
            · cases hs
        | cells T l =>
          dsimp only at hs ⊢
          cases hkc : (k && Nat.beq c n) with
          | true => rw [hkc] at hs; simp only [cond_true] at hs ⊢; rw [newF_eq, appL_eq] at hs; exact hs
          | false =>
            rw [hkc] at hs
            simp only [cond_false] at hs ⊢
            cases hc : (Nat.beq off 0 && (k && ((lenC (Nat.mul c size)).f l && (Nat.ble n c && (Nat.ble c 1000000 && decide (T = el)))))) with
            | false => rw [hc] at hs; cases hs
            | true =>
              rw [hc] at hs
              simp only [Bool.and_eq_true] at hc
              obtain ⟨c1, c2, c3, c4, c5, c6⟩ := hc
              have hl := lenC_ok _ _ c3
              have hl : Nat.beq (c * size) l.length = true := by rw [hl]; exact Nat.beq_refl _
              rw [c1, c2, hl, c4, c5, c6]
              simp only [cond_true, Bool.and_self] at hs ⊢
              subst c2
              rw [turnF_eq] at hs
              split at hs
              · next h1 ht => rw [ht]; rw [newF_eq, appL_eq] at hs; exact hs
              · cases hs
        | _ => cases hs
  · cases hs
theorem fAppend_ok (hs : (fAppend P t x y).f hb e id h = some r) : evAppend P hb t x y e id h = some r := by
  unfold fAppend at hs
  split at hs
  · next el hd =>
    split at hs
    · next i hi =>
      cases hc : (Nat.blt 0 i.size && zeroOk P el i.size) with
      | false => rw [hc] at hs; cases hs
      | true =>
        rw [hc] at hs
        rw [Bool.and_eq_true] at hc
        obtain ⟨u, h1, h2⟩ := ob_inv (show ob ((gO x).f e) _ = some r from hs)
        obtain ⟨w, h3, h4⟩ := ob_inv h2
        obtain ⟨⟨n, xs⟩, h5, h6⟩ := ob_inv h4
        obtain ⟨⟨m, ys⟩, h7, h8⟩ := ob_inv h6
        obtain ⟨g1, h9⟩ := bo_inv h8
        obtain ⟨g2, h10⟩ := bo_inv h9
        obtain ⟨g3, h11⟩ := bo_inv h10
        rw [gO_eq] at h1 h3
        rw [allOneL_eq] at g3
        have g1 : Nat.ble (n + m) 1000000 = true := g1
        have g2 : Nat.ble ((n + m) * i.bytes) 100000000 = true := g2
        have g3 : ys.all AV.isOne = true := g3
        simp only [evAppend, hd, h1, h3, hi, rowC_ok h5, rowC_ok h7, hc.1, hc.2, g1, g2, g3]
        exact appF_ok h11
    · cases hs
  · cases hs
theorem fM_ok {g : Cl MT} (hg : fM P op = some g) (hs : g.f hb e id h = some (v, h')) : evP P op e = none ∧ 2 ≤ lvOf op ∧ evM P hb op e id h = some (lvOf op, v, h') := by
  unfold fM at hg
  split at hg
  · cases hg; exact ⟨rfl, by simp only [lvOf]; omega, by simp only [evM, fAlloc_ok hs, Option.map_some]; rfl⟩
  · cases hg; exact ⟨rfl, by simp only [lvOf]; omega, by simp only [evM, fBox_ok hs, Option.map_some]; rfl⟩
  · cases hg; exact ⟨rfl, by simp only [lvOf]; omega, by simp only [evM, fStore_ok hs, Option.map_some]; rfl⟩
  · cases hg; exact ⟨rfl, by simp only [lvOf]; omega, by simp only [evM, fBuildS_ok hs, Option.map_some]; rfl⟩
  · next x y t t2 =>
    cases ht : Nat.beq t2 t with
    | false => rw [ht] at hg; cases hg
    | true =>
      rw [ht] at hg
      have : t2 = t := Nat.eq_of_beq_eq_true ht
      subst this
      cases hg
      refine ⟨rfl, by simp only [lvOf]; omega, ?_⟩
      show (bif decide (t2 = t2) then (evAppend P hb t2 x y e id h).map (fun r => (3, r)) else none) = _
      rw [decide_eq_true rfl, fAppend_ok hs]; rfl
  · cases hg; exact ⟨rfl, by simp only [lvOf]; omega, by simp only [evM, show evMakeS P _ _ _ e id h = some (v, h') from hs, Option.map_some]; rfl⟩
  · cases hg; exact ⟨rfl, by simp only [lvOf]; omega, by simp only [evM, show evMkMap P _ id h = some (v, h') from hs, Option.map_some]; rfl⟩
  · cases hg; exact ⟨rfl, by simp only [lvOf]; omega, by simp only [evM, show evMapUp P hb _ _ _ _ e h = some (v, h') from hs, Option.map_some]; rfl⟩
  · cases hg
end
end Go.PK

/-
  EF, part 4: the closures do what the machine does: steps, regions, code, calls.
-/
namespace Go.PK
section
variable {β : Type} {C : Mch} {nt : Nat} {c : CallT} {b h : Heap} {e : EnvT} {n : Nat} {v : AV} {r : β} {L : List Oper} {o : Oper} {R : RA} {i : Nat} {U : List Nat}
theorem cPut_ok {k : Cl (KT β)} {d : Option Nat} (hs : (cPut nt k d).f v c b e h n = some r) : ∃ e', putA nt d v e = some e' ∧ k.f c b e' h n = some r := by
  cases d with
  | none => exact ⟨e, rfl, hs⟩
  | some d =>
    have hs : (bif Nat.blt d nt && Nat.blt d 512 then (⟨fun v c b e h n => k.f c b ((EnvT.sE d).f v e) h n⟩ : Cl (AV → KT β)) else ⟨fun _ _ _ _ _ _ => none⟩).f v c b e h n = some r := hs
    cases h1 : (Nat.blt d nt && Nat.blt d 512) with
    | false => rw [h1] at hs; cases hs
    | true =>
      rw [h1] at hs
      rw [Bool.and_eq_true] at h1
      exact ⟨_, by simp only [putA, h1.1, cond_true, frc_eq, EnvT.set, h1.2], hs⟩
theorem qPut_ok {k : Cl (KQ β)} {d : Option Nat} (hs : (qPut nt k d).f v U c b e h n = some r) : ∃ e', putA nt d v e = some e' ∧ k.f U c b e' h n = some r := by
  cases d with
  | none => exact ⟨e, rfl, hs⟩
  | some d =>
    have hs : (bif Nat.blt d nt && Nat.blt d 512 then (⟨fun v U c b e h n => k.f U c b ((EnvT.sE d).f v e) h n⟩ : Cl (AV → KQ β)) else ⟨fun _ _ _ _ _ _ _ => none⟩).f v U c b e h n = some r := hs
    cases h1 : (Nat.blt d nt && Nat.blt d 512) with
    | false => rw [h1] at hs; cases hs
    | true =>
      rw [h1] at hs
      rw [Bool.and_eq_true] at h1
      exact ⟨_, by simp only [putA, h1.1, cond_true, frc_eq, EnvT.set, h1.2], hs⟩
theorem wantA_free (hg : o.guard = none) : wantA L e o = some true := by unfold wantA; rw [hg]
theorem wantA_at {j dj : Nat} {w : Bool} (hg : o.guard = some (j, w)) (hd : (nth L j).bind (·.dst) = some dj) (hv : e.get dj = some v) : wantA L e o = some (isBA w v) := by
  obtain ⟨oj, h1, h2⟩ := Option.bind_eq_some_iff.1 hd
  unfold wantA
  rw [hg]
  simp only [h1, h2, hv]
  cases v with
  | val u => cases u <;> rfl
  | _ => rfl
theorem stepT_free {s : St} (hw : wantA L s.env o = some true) : stepT C c nt b L {o with guard := none} s = stepT C c nt b L o s := by
  unfold stepT
  rw [hw]; rfl
theorem callOf_inv {op : Op} {f : FuncId} {xs : List Operand} (hc : callOf op = some (f, xs)) : ∃ ts, op = .call ⟨.value (.func f), ⟨xs⟩, ts⟩ := by
  unfold callOf at hc
  split at hc
  · cases hc; exact ⟨_, rfl⟩
  · cases hc
theorem callOp_of {op : Op} {f : FuncId} {xs : List Operand} {l : List AV} (hc : callOf op = some (f, xs)) (hl : evsA e xs = some l) : evP C.P op e = none ∧ evM C.P b op e n h = none ∧ callOp c b op e h n = c b h n f l := by
  obtain ⟨ts, rfl⟩ := callOf_inv hc
  refine ⟨rfl, rfl, ?_⟩
  show (match calleeA ⟨.value (.func f), ⟨xs⟩, ts⟩ e with
    | some (f, args) => c b h n f args
    | none => none) = _
  have : calleeA ⟨.value (.func f), ⟨xs⟩, ts⟩ e = some (f, l) := by
    unfold calleeA
    simp only [evO, hl]
    simp
  rw [this]
theorem cDo_ok {k : Cl (KT β)} (hw : wantA L e o = some true) (hs : (cDo C nt L o k).f c b e h n = some r) : ∃ s, stepT C c nt b L o ⟨e, h, n⟩ = some s ∧ k.f c b s.env s.h s.nx = some r := by
  unfold cDo at hs
  split at hs
  · next g hg =>
    obtain ⟨v, h1, h2⟩ := ob_inv (show ob (g.f e) _ = some r from hs)
    obtain ⟨e', h3, h4⟩ := cPut_ok h2
    exact ⟨⟨e', h, n⟩, by unfold stepT; simp only [hw, fP_ok hg h1, h3], h4⟩
  · split at hs
    · next t x hop =>
      obtain ⟨v, h1, h2⟩ := ob_inv (show ob ((fLoad C.P t x).f e h) _ = some r from hs)
      obtain ⟨e', h3, h4⟩ := cPut_ok h2
      have q1 : evP C.P o.op e = none := by rw [hop]; rfl
      have q2 : evM C.P b o.op e n h = some (1, v, h) := by
        rw [hop]
        show (evLoad C.P t x e h).map (fun v => (1, v, h)) = _
        rw [fLoad_ok h1]; rfl
      exact ⟨⟨e', h, n⟩, by unfold stepT; simp only [hw, q1, q2, h3, frcN_eq]; rfl, h4⟩
    · split at hs
      · next g hg =>
        obtain ⟨⟨v, h'⟩, h1, h2⟩ := ob_inv (show ob (g.f b e n h) _ = some r from hs)
        obtain ⟨q1, q2, q3⟩ := fM_ok hg h1
        have h2 : frcN (fun n' => (cPut nt k o.dst).f v c b e h' n') (Nat.succ n) = some r := h2
        rw [frcN_eq] at h2
        obtain ⟨e', h3, h4⟩ := cPut_ok h2
        exact ⟨⟨e', h', Nat.succ n⟩, by unfold stepT; simp only [hw, q1, q3, h3, frcN_eq, Nat.ble_eq_true_of_le q2, cond_true], h4⟩
      · split at hs
        · next f xs hcal =>
          obtain ⟨l, h1, h2⟩ := ob_inv (show ob ((gOs xs).f e) _ = some r from hs)
          obtain ⟨⟨v, h', n'⟩, h3, h4⟩ := ob_inv h2
          rw [gOs_eq] at h1
          obtain ⟨q1, q2, q3⟩ := callOp_of (C := C) (c := c) (b := b) (h := h) (n := n) hcal h1
          obtain ⟨e', h5, h6⟩ := cPut_ok (show (cPut nt k o.dst).f v c b e h' n' = some r from h4)
          exact ⟨⟨e', h', n'⟩, by unfold stepT; simp only [hw, q1, q2, q3, h3, h5], h6⟩
        · obtain ⟨s, h1, h2⟩ := ob_inv (show ob (stepT C c nt b L {o with guard := none} ⟨e, h, n⟩) _ = some r from hs)
          rw [stepT_free hw] at h1
          exact ⟨s, h1, h2⟩
theorem cStep_ok {k : Cl (KT β)} (hs : (cStep C nt L o k).f c b e h n = some r) : ∃ s, stepT C c nt b L o ⟨e, h, n⟩ = some s ∧ k.f c b s.env s.h s.nx = some r := by
  unfold cStep at hs
  split at hs
  · next hg => exact cDo_ok (wantA_free hg) hs
  · next j w hg =>
    split at hs
    · next dj hd =>
      obtain ⟨v, h1, h2⟩ := ob_inv (show ob (e.get dj) _ = some r from hs)
      have hw := wantA_at hg hd h1
      rcases bo_cases h2 with ⟨h3, h4⟩ | ⟨h3, h4⟩
      · rw [h3] at hw; exact cDo_ok hw h4
      · rw [h3] at hw
        obtain ⟨e', h5, h6⟩ := cPut_ok h4
        exact ⟨⟨e', h, n⟩, by unfold stepT; simp only [hw, h5], h6⟩
    · cases hs
theorem cOps_ok {k : Cl (KT β)} : ∀ (l : List Oper) (e : EnvT) (h : Heap) (n : Nat), (cOps C nt L k l).f c b e h n = some r → ∃ s, evT C c nt b L l ⟨e, h, n⟩ = some s ∧ k.f c b s.env s.h s.nx = some r
  | [], e, h, n, hs => ⟨⟨e, h, n⟩, rfl, hs⟩
  | o :: l, e, h, n, hs => by
    obtain ⟨s, h1, h2⟩ := cStep_ok hs
    obtain ⟨s', h3, h4⟩ := cOps_ok l s.env s.h s.nx h2
    refine ⟨s', ?_, h4⟩
    show (match stepT C c nt b L o ⟨e, h, n⟩ with
      | some s' => evT C c nt b L l s'
      | none => none) = some s'
    rw [h1]; exact h3
/-! ### Regions that draw -/
theorem qDo_ok {k : Cl (KQ β)} (ho : nth L i = some o) (hw : wantA L e o = some true) (hs : (qDo C nt o k).f U c b e h n = some r) : ∃ e' U', stepQ C nt L i e h U = some (e', U') ∧ k.f U' c b e' h n = some r := by
  unfold qDo at hs
  split at hs
  · next g hg =>
    obtain ⟨v, h1, h2⟩ := ob_inv (show ob (g.f e) _ = some r from hs)
    obtain ⟨e', h3, h4⟩ := qPut_ok h2
    exact ⟨e', U, by unfold stepQ; simp only [ho, hw, fP_ok hg h1, h3], h4⟩
  · split at hs
    · next t x hop =>
      obtain ⟨u, h1, h2⟩ := ob_inv (show ob ((gO x).f e) _ = some r from hs)
      obtain ⟨id, off, rfl, h2⟩ := onPtr_inv h2
      obtain ⟨v, h3, h4⟩ := ob_inv h2
      obtain ⟨e', h5, h6⟩ := qPut_ok h4
      rw [gO_eq] at h1
      have q1 : evP C.P o.op e = none := by rw [hop]; rfl
      exact ⟨e', id :: U, by unfold stepQ; simp only [ho, hw, q1]; simp only [hop, h1, loadF_ok h3, h5], h6⟩
    · cases hs
theorem qStep_ok {k : Cl (KQ β)} (hs : (qStep C nt L i k).f U c b e h n = some r) : ∃ e' U', stepQ C nt L i e h U = some (e', U') ∧ k.f U' c b e' h n = some r := by
  unfold qStep at hs
  split at hs
  · next o ho =>
    split at hs
    · next hg => exact qDo_ok ho (wantA_free hg) hs
    · next j w hg =>
      split at hs
      · next dj hd =>
        obtain ⟨v, h1, h2⟩ := ob_inv (show ob (e.get dj) _ = some r from hs)
        have hw := wantA_at hg hd h1
        rcases bo_cases h2 with ⟨h3, h4⟩ | ⟨h3, h4⟩
        · rw [h3] at hw; exact qDo_ok ho hw h4
        · rw [h3] at hw
          obtain ⟨e', h5, h6⟩ := qPut_ok h4
          exact ⟨e', U, by unfold stepQ; simp only [ho, hw, h5], h6⟩
      · cases hs
  · cases hs
theorem qOps_ok {k : Cl (KQ β)} : ∀ (l : List Nat) (e : EnvT) (U : List Nat), (qOps C nt L k l).f U c b e h n = some r → ∃ e' U', evQ C nt L h l e U = some (e', U') ∧ k.f U' c b e' h n = some r
  | [], e, U, hs => ⟨e, U, rfl, hs⟩
  | i :: l, e, U, hs => by
    obtain ⟨e1, U1, h1, h2⟩ := qStep_ok hs
    obtain ⟨e2, U2, h3, h4⟩ := qOps_ok l e1 U1 h2
    refine ⟨e2, U2, ?_, h4⟩
    show (match stepQ C nt L i e h U with
      | some (env, U) => evQ C nt L h l env U
      | none => none) = some (e2, U2)
    rw [h1]; exact h3
theorem numK (R : RA) (i n : Nat) : (bif Nat.beq R.K 0 then n + i * R.K else n) = n := by
  cases hb : Nat.beq R.K 0 with
  | true => rw [Nat.eq_of_beq_eq_true hb]; rfl
  | false => rfl
theorem frc1_eq {γ : Type} (v : AV) (k : AV → γ) : frc1 v k = k v := by
  cases v with
  | val w => exact frc_eq _ _
  | _ => simp only [frc1, frcN_eq, frcB_eq]
theorem frcLA_eq {γ : Type} : ∀ (l : List AV) (k : List AV → γ), frcLA l k = k l
  | [], k => rfl
  | x :: l, k => by
    show frc1 x (fun x => frcLA l fun r => k (x :: r)) = _
    rw [frc1_eq, frcLA_eq]
theorem frcV_eq {γ : Type} (v : AV) (k : AV → γ) : frcV v k = k v := by
  cases v with
  | val w => exact frc_eq _ _
  | ptr i o => exact frc1_eq (.ptr i o) k
  | sl i o n b c => exact frc1_eq (.sl i o n b c) k
  | map i => exact frc1_eq (.map i) k
  | agg l => exact frcLA_eq _ _
  | _ => rfl
theorem frcVs_eq {γ : Type} : ∀ (l : List AV) (k : List AV → γ), frcVs l k = k l
  | [], k => rfl
  | x :: l, k => by
    show frcV x (fun x => frcVs l fun r => k (x :: r)) = _
    rw [frcV_eq, frcVs_eq]
theorem frcK_eq {γ : Type} (K : Nat) (l : List AV) (k : List AV → γ) : frcK K l k = k l := by
  unfold frcK
  cases Nat.beq K 0 with
  | true => rfl
  | false => exact frcVs_eq l k
theorem dDo_ok {k : Cl (KT β)} (ho : nth L i = some o) (hw : wantA L e o = some true) (hs : (dDo C nt R L i o k).f c b e h n = some r) :
    ∃ s, stepD C c nt b R L i (n + i * R.K) ⟨e, h, n⟩ = some s ∧ k.f c b s.env s.h (bif Nat.beq R.K 0 then s.nx else n) = some r := by
  unfold dDo at hs
  split at hs
  · next g hg =>
    obtain ⟨v, h1, h2⟩ := ob_inv (show ob (g.f e) _ = some r from hs)
    obtain ⟨e', h3, h4⟩ := cPut_ok h2
    exact ⟨⟨e', h, n + i * R.K⟩, by unfold stepD; simp only [ho, hw, fP_ok hg h1, h3], by rw [numK]; exact h4⟩
  · split at hs
    · next t x hop =>
      cases htq : R.tq.contains i with
      | true => rw [htq] at hs; cases hs
      | false =>
        rw [htq] at hs
        obtain ⟨v, h1, h2⟩ := ob_inv (show ob ((fLoad C.P t x).f e h) _ = some r from hs)
        obtain ⟨e', h3, h4⟩ := cPut_ok h2
        have q1 : evP C.P o.op e = none := by rw [hop]; rfl
        have q2 : evM C.P b o.op e (n + i * R.K) h = some (1, v, h) := by
          rw [hop]
          show (evLoad C.P t x e h).map (fun v => (1, v, h)) = _
          rw [fLoad_ok h1]; rfl
        have q3 : lvOk R i 1 = true := by show (!R.tq.contains i) = true; rw [htq]; rfl
        exact ⟨⟨e', h, n + i * R.K⟩, by unfold stepD; simp only [ho, hw, q1, q2, q3, cond_true, h3, frcN_eq]; rfl, by rw [numK]; exact h4⟩
    · split at hs
      · next g hg =>
        cases hlv : lvOk R i (lvOf o.op) with
        | false => rw [hlv] at hs; cases hs
        | true =>
          rw [hlv] at hs
          cases hK : Nat.beq R.K 0 with
          | true =>
            rw [hK] at hs
            obtain ⟨⟨v, h'⟩, h1, h2⟩ := ob_inv (show ob (g.f b e n h) _ = some r from hs)
            have h2 : frcN (fun n' => (cPut nt k o.dst).f v c b e h' n') (Nat.succ n) = some r := h2
            rw [frcN_eq] at h2
            obtain ⟨e', h3, h4⟩ := cPut_ok h2
            have hn : n + i * R.K = n := by rw [Nat.eq_of_beq_eq_true hK]; rfl
            obtain ⟨q1, q2, q3⟩ := fM_ok hg h1
            exact ⟨⟨e', h', Nat.succ n⟩, by unfold stepD; simp only [hn, ho, hw, q1, q3, hlv, cond_true, h3, frcN_eq, Nat.ble_eq_true_of_le q2], h4⟩
          | false =>
            rw [hK] at hs
            have hs : frcN (fun m => ob (g.f b e m h) fun r => Prod.rec (motive := fun _ => Option β) (fun v h' => (cPut nt k o.dst).f v c b e h' n) r) (Nat.add n (Nat.mul i R.K)) = some r := hs
            rw [frcN_eq] at hs
            obtain ⟨⟨v, h'⟩, h1, h2⟩ := ob_inv hs
            obtain ⟨e', h3, h4⟩ := cPut_ok (show (cPut nt k o.dst).f v c b e h' n = some r from h2)
            obtain ⟨q1, q2, q3⟩ := fM_ok hg h1
            have q3 : evM C.P b o.op e (n + i * R.K) h = some (lvOf o.op, v, h') := q3
            exact ⟨⟨e', h', Nat.succ (n + i * R.K)⟩, by unfold stepD; simp only [ho, hw, q1, q3, hlv, cond_true, h3, frcN_eq, Nat.ble_eq_true_of_le q2], h4⟩
      · split at hs
        · next f xs hcal =>
          cases hef : R.ef.contains i with
          | true =>
            rw [hef] at hs
            obtain ⟨l, h1, h2⟩ := ob_inv (show ob ((gOs xs).f e) _ = some r from hs)
            rw [frcK_eq, frcN_eq] at h2
            obtain ⟨⟨v, h', n'⟩, h3, h4⟩ := ob_inv h2
            rw [gOs_eq] at h1
            obtain ⟨e', h5, h6⟩ := cPut_ok (show (cPut nt k o.dst).f v c b e h' (bo (Nat.beq R.K 0) n' n) = some r from h4)
            have h6 : k.f c b e' h' (bif Nat.beq R.K 0 then n' else n) = some r := by
              cases hK : Nat.beq R.K 0 <;> rw [hK] at h6 <;> exact h6
            refine ⟨⟨e', h', n'⟩, ?_, h6⟩
            cases hbk : R.bk.contains i with
            | true =>
              rw [hbk] at h3
              have h3 : c b h (n + i * R.K) f l = some (v, h', n') := h3
              obtain ⟨q1, q2, q3⟩ := callOp_of (C := C) (c := c) (b := b) (h := h) (n := n + i * R.K) hcal h1
              unfold stepD; simp only [ho, hw, q1, q2, q3, hbk, cond_true, h3, hef, h5]
            | false =>
              rw [hbk] at h3
              have h3 : c h h (n + i * R.K) f l = some (v, h', n') := h3
              obtain ⟨q1, q2, -⟩ := callOp_of (C := C) (c := c) (b := b) (h := h) (n := n + i * R.K) hcal h1
              obtain ⟨-, -, q3⟩ := callOp_of (C := C) (c := c) (b := h) (h := h) (n := n + i * R.K) hcal h1
              unfold stepD; simp only [ho, hw, q1, q2, q3, hbk, cond_true, cond_false, h3, hef, h5]
          | false =>
            rw [hef] at hs
            cases hbt : (R.bk.contains i || R.tq.contains i) with
            | true => rw [hbt] at hs; cases hs
            | false =>
              rw [hbt] at hs
              rw [Bool.or_eq_false_iff] at hbt
              obtain ⟨l, h1, h2⟩ := ob_inv (show ob ((gOs xs).f e) _ = some r from hs)
              rw [frcK_eq, frcN_eq] at h2
              obtain ⟨⟨v, h', n'⟩, h3, h4⟩ := ob_inv h2
              have h3 : c h h (n + i * R.K) f l = some (v, h', n') := h3
              obtain ⟨h5, h6⟩ := bo_inv h4
              have h5 : v.idsIn h = true := h5
              rw [gOs_eq] at h1
              obtain ⟨e', h7, h8⟩ := cPut_ok (show (cPut nt k o.dst).f v c b e h n = some r from h6)
              obtain ⟨q1, q2, -⟩ := callOp_of (C := C) (c := c) (b := b) (h := h) (n := n + i * R.K) hcal h1
              obtain ⟨-, -, q3⟩ := callOp_of (C := C) (c := c) (b := h) (h := h) (n := n + i * R.K) hcal h1
              exact ⟨⟨e', h, n + i * R.K⟩, by unfold stepD; simp only [ho, hw, q1, q2, q3, hbt.1, hbt.2, hef, cond_false, h3, h5, h7]; rfl, by rw [numK]; exact h8⟩
        · obtain ⟨s, h1, h2⟩ := ob_inv (show ob (stepD C c nt b R L i (n + i * R.K) ⟨e, h, n⟩) _ = some r from hs)
          refine ⟨s, h1, ?_⟩
          have h2 : k.f c b s.env s.h (bo (Nat.beq R.K 0) s.nx n) = some r := h2
          cases hK : Nat.beq R.K 0 <;> rw [hK] at h2 <;> exact h2
theorem dStep_ok {k : Cl (KT β)} (hs : (dStep C nt R L i k).f c b e h n = some r) :
    ∃ s, stepD C c nt b R L i (n + i * R.K) ⟨e, h, n⟩ = some s ∧ k.f c b s.env s.h (bif Nat.beq R.K 0 then s.nx else n) = some r := by
  unfold dStep at hs
  split at hs
  · next o ho =>
    split at hs
    · next hg => exact dDo_ok ho (wantA_free hg) hs
    · next j w hg =>
      split at hs
      · next dj hd =>
        obtain ⟨v, h1, h2⟩ := ob_inv (show ob (e.get dj) _ = some r from hs)
        have hw := wantA_at hg hd h1
        rcases bo_cases h2 with ⟨h3, h4⟩ | ⟨h3, h4⟩
        · rw [h3] at hw; exact dDo_ok ho hw h4
        · rw [h3] at hw
          obtain ⟨e', h5, h6⟩ := cPut_ok h4
          exact ⟨⟨e', h, n + i * R.K⟩, by unfold stepD; simp only [ho, hw, h5], by rw [numK]; exact h6⟩
      · cases hs
  · cases hs
end
end Go.PK

/-
  EF, part 5: the closures do what the machine does: orders, code, calls, whole.
-/
namespace Go.PK
section
variable {β : Type} {C : Mch} {nt fn : Nat} {c : CallT} {b h : Heap} {e : EnvT} {n : Nat} {v : AV} {r : β} {L : List Oper} {R : RA} {eqS : St → St → Bool}
theorem sameF_ok {t : St} {g : Nat → Cl (KT St)} : ∀ (ks : List Nat) (u : Bool), sameF eqS t (ks.map g) c b e h n = some u → ∀ k ∈ ks, ∃ t', (g k).f c b e h n = some t' ∧ eqS t t' = true
  | [], _, _ => fun _ h => by cases h
  | k :: ks, u, hs => fun k' hk => by
    obtain ⟨t', h1, h2⟩ := ob_inv (show ob ((g k).f c b e h n) (fun u => bo (eqS t u) (sameF eqS t (ks.map g) c b e h n) none) = some u from hs)
    obtain ⟨h3, h4⟩ := bo_inv h2
    rcases List.mem_cons.1 hk with rfl | hk
    · exact ⟨t', h1, h3⟩
    · exact sameF_ok ks u h4 k' hk
theorem dSq_ok : ∀ (q : Sq) (e : EnvT) (h : Heap) (n : Nat) (s : St), (dSq C nt eqS R L q).f c b e h n = some s → evD C c nt eqS b R L q ⟨e, h, n⟩ = some s
  | .nil, e, h, n, s, hs => hs
  | .cons i l, e, h, n, s, hs => by
    obtain ⟨s1, h1, h2⟩ := dStep_ok (show (dStep C nt R L i (dSq C nt eqS R L l)).f c b e h n = some s from hs)
    show (match stepD C c nt b R L i (n + i * R.K) ⟨e, h, n⟩ with
      | some s' => evD C c nt eqS b R L l (nextN R ⟨e, h, n⟩ s')
      | none => none) = some s
    rw [h1]
    exact dSq_ok l _ _ _ s h2
  | .fork ks f, e, h, n, s, hs => by
    have hs : (forkF eqS (ks.map fun k => dStep C nt R L k (dSq C nt eqS R L (f k)))).f c b e h n = some s := hs
    show forkA eqS (fun k s => match stepD C c nt b R L k (s.nx + k * R.K) s with
      | some s' => evD C c nt eqS b R L (f k) (nextN R s s')
      | none => none) ks ⟨e, h, n⟩ = some s
    have one : ∀ k t, (dStep C nt R L k (dSq C nt eqS R L (f k))).f c b e h n = some t → (match stepD C c nt b R L k (n + k * R.K) ⟨e, h, n⟩ with
      | some s' => evD C c nt eqS b R L (f k) (nextN R ⟨e, h, n⟩ s')
      | none => none) = some t := fun k t ht => by
      obtain ⟨s1, h1, h2⟩ := dStep_ok ht
      rw [h1]
      exact dSq_ok (f k) _ _ _ t h2
    cases ks with
    | nil => cases hs
    | cons k ks =>
      obtain ⟨t, h1, h2⟩ := ob_inv (show ob ((dStep C nt R L k (dSq C nt eqS R L (f k))).f c b e h n) (fun t => ob (sameF eqS t (ks.map fun k => dStep C nt R L k (dSq C nt eqS R L (f k))) c b e h n) fun _ => some t) = some s from hs)
      obtain ⟨u, h3, h4⟩ := ob_inv h2
      cases h4
      have h5 := sameF_ok ks u h3
      show (match (match stepD C c nt b R L k (n + k * R.K) ⟨e, h, n⟩ with
        | some s' => evD C c nt eqS b R L (f k) (nextN R ⟨e, h, n⟩ s')
        | none => none) with
        | some t => bif ks.all (fun k => match (match stepD C c nt b R L k (n + k * R.K) ⟨e, h, n⟩ with
            | some s' => evD C c nt eqS b R L (f k) (nextN R ⟨e, h, n⟩ s')
            | none => none) with
          | some t' => eqS t t'
          | none => false) then some t else none
        | none => none) = some s
      rw [one k s h1]
      have : (ks.all (fun k => match (match stepD C c nt b R L k (n + k * R.K) ⟨e, h, n⟩ with
            | some s' => evD C c nt eqS b R L (f k) (nextN R ⟨e, h, n⟩ s')
            | none => none) with
          | some t' => eqS s t'
          | none => false)) = true := by
        rw [List.all_eq_true]
        intro k' hk'
        obtain ⟨t', h6, h7⟩ := h5 k' hk'
        rw [one k' t' h6]
        exact h7
      show (bif ks.all _ then some s else none) = some s
      rw [this]; rfl
theorem dRg_ok {k : Cl (KT β)} {id : Nat} {ops : Array Oper} (hs : (dRg C nt eqS fn id ops k).f c b e h n = some r) : ∃ s, evRg C c nt eqS fn b id ops true ⟨e, h, n⟩ = some (.nrm s) ∧ k.f c b s.env s.h s.nx = some r := by
  unfold dRg at hs
  split at hs
  · next R hR =>
    cases hch : chk ops (Sq.behind R.pre R.s) R.ef R.bk R.tq with
    | false => rw [hch] at hs; cases hs
    | true =>
      rw [hch] at hs
      obtain ⟨e1, U1, h1, h2⟩ := qOps_ok (k := ⟨fun U c b e h n => ob (addU h U b) fun b' => ob ((dSq C nt eqS R ops.toList R.s).f c b' e h n) fun s => St.rec (motive := fun _ => Option β) (fun e h n => frcN (fun n => k.f c b e h n) (Nat.add n (Nat.mul ops.size R.K))) s⟩) R.pre e [] hs
      obtain ⟨b', h3, h4⟩ := ob_inv h2
      obtain ⟨s, h5, h6⟩ := ob_inv h4
      have h6 : frcN (fun n => k.f c b s.env s.h n) (Nat.add s.nx (Nat.mul ops.size R.K)) = some r := h6
      rw [frcN_eq] at h6
      refine ⟨⟨s.env, s.h, s.nx + ops.size * R.K⟩, ?_, h6⟩
      have q := dSq_ok R.s e1 h n s h5
      unfold evRg
      rw [hR]
      show (bif chk ops (Sq.behind R.pre R.s) R.ef R.bk R.tq then fun s => (match evQ C nt ops.toList s.h R.pre s.env [] with
        | some (env, U) => match addU s.h U b with
          | some hb' => match evD C c nt eqS hb' R ops.toList R.s ⟨env, s.h, s.nx⟩ with
            | some s' => some (Xt.nrm ⟨s'.env, s'.h, s'.nx + ops.size * R.K⟩)
            | none => none
          | none => none
        | none => none)
      else fun _ => none : St → Option Xt) ⟨e, h, n⟩ = _
      rw [hch]
      show (match evQ C nt ops.toList h R.pre e [] with
        | some (env, U) => match addU h U b with
          | some hb' => match evD C c nt eqS hb' R ops.toList R.s ⟨env, h, n⟩ with
            | some s' => some (Xt.nrm ⟨s'.env, s'.h, s'.nx + ops.size * R.K⟩)
            | none => none
          | none => none
        | none => none) = _
      simp only [h1, h3, q]
  · cases hs
/-! ### Code -/
/-- What comes behind code that ended so. -/
def Th (k : Cl (KT Xt)) (c : CallT) (b : Heap) (r : Xt) : Xt → Prop
  | .nrm s => k.f c b s.env s.h s.nx = some r
  | r1 => r = r1
theorem thenF_ok {k : Cl (KT Xt)} {o : Option Xt} {r : Xt} (hs : thenF (k.f c b) o = some r) : ∃ r1, o = some r1 ∧ Th k c b r r1 := by
  obtain ⟨x, h1, h2⟩ := ob_inv hs
  refine ⟨x, h1, ?_⟩
  cases x with
  | nrm s => exact h2
  | _ => exact (Option.some.inj h2).symm
theorem Th.end {r r1 : Xt} (h : Th endK c b r r1) : r = r1 := by
  cases r1 with
  | nrm s => exact (Option.some.inj (show some (Xt.nrm ⟨s.env, s.h, s.nx⟩) = some r from h)).symm
  | _ => exact h
theorem blockF_ok {k : Cl (KT Xt)} {o : Option Xt} {r : Xt} {id : Nat} (hs : blockF id (k.f c b) o = some r) : ∃ r1, o = some r1 ∧ ∃ r2, blockX id (some r1) = some r2 ∧ Th k c b r r2 := by
  obtain ⟨x, h1, h2⟩ := ob_inv hs
  refine ⟨x, h1, ?_⟩
  cases x with
  | nrm s => exact ⟨.nrm s, rfl, h2⟩
  | ext i s =>
    rcases bo_cases (show bo (Nat.beq i id) (St.rec (motive := fun _ => Option Xt) (k.f c b) s) (some (.ext i s)) = some r from h2) with ⟨h3, h4⟩ | ⟨h3, h4⟩
    · exact ⟨.nrm s, by show (bif Nat.beq i id then some (Xt.nrm s) else some (.ext i s)) = _; rw [h3]; rfl, h4⟩
    · exact ⟨.ext i s, by show (bif Nat.beq i id then some (Xt.nrm s) else some (.ext i s)) = _; rw [h3]; rfl, (Option.some.inj h4).symm⟩
  | gto i s => exact ⟨.gto i s, rfl, (Option.some.inj h2).symm⟩
  | ret s => exact ⟨.ret s, rfl, (Option.some.inj h2).symm⟩
theorem loopF_ok {body : Cl (KT Xt)} {bs : St → Option Xt} (hb : ∀ e h n r, body.f c b e h n = some r → bs ⟨e, h, n⟩ = some r) : ∀ (m : Nat) (e : EnvT) (h : Heap) (n : Nat) (r : Xt), loopF body endK m c b e h n = some r → iterA bs m ⟨e, h, n⟩ = some r ∧ ∀ s, r ≠ .nrm s
  | 0, e, h, n, r, hs => by cases hs
  | m + 1, e, h, n, r, hs => by
    have hs : ob (body.f c b e h n) (fun x => Xt.rec (motive := fun _ => Option Xt) (fun s => St.rec (motive := fun _ => Option Xt) (loopF body endK m c b) s) (fun i s => some (.ext i s)) (fun i s => some (.gto i s)) (fun s => some (.ret s)) x) = some r := hs
    obtain ⟨x, h1, h2⟩ := ob_inv hs
    have h1 := hb _ _ _ _ h1
    show Go.PK.thenX (iterA bs m) (bs ⟨e, h, n⟩) = some r ∧ _
    rw [h1]
    cases x with
    | nrm s => exact loopF_ok hb m s.env s.h s.nx r h2
    | ext i s => cases h2; exact ⟨rfl, fun _ h => by cases h⟩
    | gto i s => cases h2; exact ⟨rfl, fun _ h => by cases h⟩
    | ret s => cases h2; exact ⟨rfl, fun _ h => by cases h⟩
theorem jumpX_mono {p p' : Code → St → Option Xt} (hp : ∀ cd s r, p cd s = some r → p' cd s = some r) {l : Nat} {rest : Code} : ∀ (m : Nat) (s : St) (r : Xt), jumpX p l rest m s = some r → jumpX p' l rest m s = some r
  | 0, s, r, hs => by cases hs
  | m + 1, s, r, hs => by
    unfold jumpX at hs ⊢
    split at hs
    · next l' s' hpr =>
      rw [hp _ _ _ hpr]
      dsimp only
      cases hb : Nat.beq l' l with
      | true => rw [hb] at hs; exact jumpX_mono hp m s' r hs
      | false => rw [hb] at hs; exact hs
    · next hne =>
      have := hp _ _ _ hs
      rw [this]
      cases r with
      | gto l' s' => exact absurd hs (hne l' s')
      | _ => rfl
theorem scopeX_mono {p p' : Code → St → Option Xt} (hp : ∀ cd s r, p cd s = some r → p' cd s = some r) {cd : Code} {o : Option Xt} {r : Xt} (hs : scopeX p cd o = some r) : scopeX p' cd o = some r := by
  cases o with
  | none => exact hs
  | some x =>
    cases x with
    | gto l s =>
      have hs : (match findLabel cd l with
        | some rest => jumpX p l rest 1000 s
        | none => none) = some r := hs
      show (match findLabel cd l with
        | some rest => jumpX p' l rest 1000 s
        | none => none) = some r
      split at hs
      · next rest hf => exact jumpX_mono hp 1000 s r hs
      · cases hs
    | _ => exact hs
variable {pF : Code → Cl (KT Xt)} {ps : Code → St → Option Xt}
theorem cK_ok (hp : ∀ cd e h n r, (pF cd).f c b e h n = some r → ps cd ⟨e, h, n⟩ = some r) : ∀ (cd : Code) (k : Cl (KT Xt)) (e : EnvT) (h : Heap) (n : Nat) (r : Xt), (cK C nt eqS fn pF cd k).f c b e h n = some r → ∃ r1, evCn C c nt eqS fn b ps cd ⟨e, h, n⟩ = some r1 ∧ Th k c b r r1
  | .skip, k, e, h, n, r, hs => ⟨.nrm ⟨e, h, n⟩, rfl, hs⟩
  | .label _, k, e, h, n, r, hs => ⟨.nrm ⟨e, h, n⟩, rfl, hs⟩
  | .region id ops false, k, e, h, n, r, hs => by
    obtain ⟨s, h1, h2⟩ := cOps_ok ops.toList e h n (show (cOps C nt ops.toList k ops.toList).f c b e h n = some r from hs)
    exact ⟨.nrm s, by show (evT C c nt b ops.toList ops.toList ⟨e, h, n⟩).map Xt.nrm = _; rw [h1]; rfl, h2⟩
  | .region id ops true, k, e, h, n, r, hs => by
    obtain ⟨s, h1, h2⟩ := dRg_ok (show (dRg C nt eqS fn id ops k).f c b e h n = some r from hs)
    exact ⟨.nrm s, h1, h2⟩
  | .seq x y, k, e, h, n, r, hs => by
    obtain ⟨r1, h1, h2⟩ := cK_ok hp x (cK C nt eqS fn pF y k) e h n r hs
    show ∃ r2, thenX (evCn C c nt eqS fn b ps y) (evCn C c nt eqS fn b ps x ⟨e, h, n⟩) = some r2 ∧ _
    rw [h1]
    cases r1 with
    | nrm s => exact cK_ok hp y k s.env s.h s.nx r h2
    | ext i s => exact ⟨_, rfl, h2⟩
    | gto i s => exact ⟨_, rfl, h2⟩
    | ret s => exact ⟨_, rfl, h2⟩
  | .cond o x y, k, e, h, n, r, hs => by
    obtain ⟨v, h1, h2⟩ := ob_inv (show ob ((gO o).f e) (fun v => onB v fun t => bo t ((cK C nt eqS fn pF x k).f c b e h n) ((cK C nt eqS fn pF y k).f c b e h n)) = some r from hs)
    obtain ⟨t, rfl, h3⟩ := onB_inv h2
    rw [gO_eq] at h1
    show ∃ r1, condX (evCn C c nt eqS fn b ps x) (evCn C c nt eqS fn b ps y) ⟨e, h, n⟩ (evO e o) = some r1 ∧ _
    rw [h1]
    cases t with
    | true => exact cK_ok hp x k e h n r h3
    | false => exact cK_ok hp y k e h n r h3
  | .block id x, k, e, h, n, r, hs => by
    obtain ⟨r1, h1, r2, h2, h3⟩ := blockF_ok (show blockF id (k.f c b) ((cK C nt eqS fn pF x endK).f c b e h n) = some r from hs)
    obtain ⟨r3, h4, h5⟩ := cK_ok hp x endK e h n r1 h1
    have := h5.end
    subst this
    exact ⟨r2, by show blockX id (evCn C c nt eqS fn b ps x ⟨e, h, n⟩) = _; rw [h4]; exact h2, h3⟩
  | .loop x, k, e, h, n, r, hs => by
    have hs : loopF (cK C nt eqS fn pF x endK) endK 1000000 c b e h n = some r := hs
    obtain ⟨h1, h2⟩ := loopF_ok (bs := evCn C c nt eqS fn b ps x) (fun e h n r hr => by
      obtain ⟨r1, g1, g2⟩ := cK_ok hp x endK e h n r hr
      rw [g2.end]; exact g1) 1000000 e h n r hs
    refine ⟨r, h1, ?_⟩
    cases r with
    | nrm s => exact absurd rfl (h2 s)
    | _ => rfl
  | .exit id, k, e, h, n, r, hs => by cases hs; exact ⟨_, rfl, rfl⟩
  | .goto l, k, e, h, n, r, hs => by cases hs; exact ⟨_, rfl, rfl⟩
  | .scope x, k, e, h, n, r, hs => by
    obtain ⟨r1, h1, h2⟩ := thenF_ok (show thenF (k.f c b) (scopeX (fun cd s => (pF cd).f c b s.env s.h s.nx) x ((cK C nt eqS fn pF x endK).f c b e h n)) = some r from hs)
    refine ⟨r1, ?_, h2⟩
    show scopeX ps x (evCn C c nt eqS fn b ps x ⟨e, h, n⟩) = some r1
    have h3 := scopeX_mono (p' := ps) (fun cd s r hr => hp cd s.env s.h s.nx r hr) h1
    cases hx : (cK C nt eqS fn pF x endK).f c b e h n with
    | none => rw [hx] at h3; cases h3
    | some r3 =>
      rw [hx] at h3
      obtain ⟨r4, g1, g2⟩ := cK_ok hp x endK e h n r3 hx
      have := g2.end
      subst this
      rw [g1]; exact h3
  | .ret, k, e, h, n, r, hs => by cases hs; exact ⟨_, rfl, rfl⟩
  | .rangeFunc _ _ _ _, k, e, h, n, r, hs => by cases hs
  | .refuse _, k, e, h, n, r, hs => by cases hs
theorem cC_ok : ∀ (m : Nat) (cd : Code) (e : EnvT) (h : Heap) (n : Nat) (r : Xt), (cC C nt eqS fn m cd).f c b e h n = some r → evC C c nt eqS fn b m cd ⟨e, h, n⟩ = some r
  | 0, cd, e, h, n, r, hs => by cases hs
  | m + 1, cd, e, h, n, r, hs => by
    obtain ⟨r1, h1, h2⟩ := cK_ok (ps := evC C c nt eqS fn b m) (fun cd e h n r hr => cC_ok m cd e h n r hr) cd endK e h n r hs
    rw [h2.end]; exact h1
/-! ### Calls -/
variable {P : Program}
theorem rsF_ok {x : ResultVar} {n : Nat} (hs : (rsF P x).f e h = some v) : resVA P ⟨e, h, n⟩ x = some v := by
  cases x with
  | tmp t => exact hs
  | cell a t => exact fLoad_ok (show (fLoad P t (.tmp a)).f e h = some v from hs)
theorem rlF_ok {n : Nat} : ∀ {l : List ResultVar} {vs : List AV}, (rlF P l).f e h = some vs → resL P ⟨e, h, n⟩ l = some vs ∧ vs.length = l.length
  | [], vs, hs => by cases hs; exact ⟨rfl, rfl⟩
  | x :: r, vs, hs => by
    obtain ⟨v, h1, h2⟩ := ob_inv (show ob ((rsF P x).f e h) (fun v => ob ((rlF P r).f e h) fun l => some (v :: l)) = some vs from hs)
    obtain ⟨l, h3, h4⟩ := ob_inv h2
    cases h4
    obtain ⟨q1, q2⟩ := rlF_ok (n := n) h3
    exact ⟨by simp only [resL, rsF_ok (n := n) h1, q1], by rw [List.length_cons, List.length_cons, q2]⟩
theorem raF_ok {n : Nat} {l : List ResultVar} (hs : (raF P l).f e h = some v) : resA P ⟨e, h, n⟩ l = some v := by
  match l, hs with
  | [x], hs => simp only [resA, resL, rsF_ok (n := n) (show (rsF P x).f e h = some v from hs)]
  | [], hs => cases hs; rfl
  | x :: y :: l, hs =>
    obtain ⟨vs, h1, h2⟩ := ob_inv (show ob ((rlF P (x :: y :: l)).f e h) (fun l => some (AV.tup l)) = some v from hs)
    obtain ⟨q1, q2⟩ := rlF_ok (n := n) h1
    cases h2
    unfold resA
    rw [q1]
    match vs, q2 with
    | _ :: _ :: _, _ => rfl
theorem endF_ok {rs : List ResultVar} {o : Option Xt} {q : AV × Heap × Nat} (hs : endF P rs o = some q) : endX P rs o = some q := by
  obtain ⟨x, rfl, h2⟩ := ob_inv hs
  cases x with
  | nrm s =>
    obtain ⟨v, h3, h4⟩ := ob_inv (show ob ((raF P rs).f s.env s.h) (fun v => some (v, s.h, s.nx)) = some q from h2)
    cases h4
    show (resA P s rs).map (fun v => (v, s.h, s.nx)) = _
    rw [show resA P s rs = some v from raF_ok (n := s.nx) h3]; rfl
  | ret s =>
    obtain ⟨v, h3, h4⟩ := ob_inv (show ob ((raF P rs).f s.env s.h) (fun v => some (v, s.h, s.nx)) = some q from h2)
    cases h4
    show (resA P s rs).map (fun v => (v, s.h, s.nx)) = _
    rw [show resA P s rs = some v from raF_ok (n := s.nx) h3]; rfl
  | _ => cases h2
/-- The closures' calls are calls. -/
theorem gF_ok (hk : ∀ f g, C.hk f = some g → ∀ hb h nx args v h' nx', g hb h nx args = some (v, h', nx') → FOk C.P f args h hb v h') (hO : ∀ f, C.ok f = true → ∀ as w, (callFunc f as).run C.P w = .ok (.enter f as) w)
    (hD : ∀ call, CallOk C.P call → DrOk C call eqS) : ∀ d, CallOk C.P (gF C eqS d)
  | 0 => fun hb h nx f args v h' nx' he => by cases he
  | d + 1 => fun hb h nx f args v h' nx' he => by
    have hc := gF_ok hk hO hD d
    have he : (cF C eqS f).f (gF C eqS d) hb h nx args = some (v, h', nx') := he
    unfold cF at he
    split at he
    · next g hg => exact hk f g hg _ _ _ _ _ _ _ he
    · cases hok : C.ok f with
      | false => rw [hok] at he; cases he
      | true =>
        rw [hok] at he
        simp only [cond_true] at he
        split at he
        · next fn hfn =>
          split at he
          · next cd hbody =>
            obtain ⟨hle, he⟩ := bo_inv he
            obtain ⟨env, henv, he⟩ := ob_inv he
            obtain ⟨r, hr, hend⟩ := ob_inv he
            have h1 := cC_ok 3 cd env h nx r hr
            have he := endF_ok he
            rw [hr, ← h1] at he
            exact fn_ok hc (hD _ hc) (hO f hok) hfn hbody (Nat.le_of_ble_eq_true hle) henv he
          · cases he
        · cases he
/-! ### States compared -/
theorem intE_eq {a b : Value} (h : intE a b = true) : a = b := by
  unfold intE at h
  split at h
  · next k m k' n =>
    cases m with
    | ofNat a =>
      cases n with
      | ofNat b =>
        have h : (Nat.beq a b && decide (k = k')) = true := h
        rw [Bool.and_eq_true, decide_eq_true_eq] at h
        rw [Nat.eq_of_beq_eq_true h.1, h.2]
      | negSucc b => cases h
    | negSucc a =>
      have h : (decide (Int.negSucc a = n) && decide (k = k')) = true := h
      rw [Bool.and_eq_true, decide_eq_true_eq, decide_eq_true_eq] at h
      rw [h.1, h.2]
  · exact valB_eq h
theorem avE_eq {a b : AV} (h : avE a b = true) : a = b := by
  cases a with
  | val w =>
    cases b with
    | val w' => rw [intE_eq (show intE w w' = true from h)]
    | _ => cases h
  | ptr i o =>
    cases b with
    | ptr j p =>
      rcases bo_cases (show bo (Nat.beq i j) (Nat.beq o p) false = true from h) with ⟨h1, h2⟩ | ⟨_, h2⟩
      · rw [Nat.eq_of_beq_eq_true h1, Nat.eq_of_beq_eq_true h2]
      · cases h2
    | _ => cases h
  | _ => exact AV.eqB_eq h
theorem listE_eq : ∀ {l m : List AV}, listE l m = true → l = m
  | [], [], _ => rfl
  | [], _ :: _, h => by cases h
  | _ :: _, [], h => by cases h
  | a :: l, b :: m, h => by
    rcases bo_cases (show bo (avE a b) (listE l m) false = true from h) with ⟨h1, h2⟩ | ⟨_, h2⟩
    · rw [avE_eq h1, listE_eq h2]
    · cases h2
theorem blkE_eq {x y : Blk} (h : blkE x y = true) : x = y := by
  cases x with
  | cells T l =>
    cases y with
    | cells U m =>
      rcases bo_cases (show bo (Nat.beq T U) (listE l m) false = true from h) with ⟨h1, h2⟩ | ⟨_, h2⟩
      · rw [Nat.eq_of_beq_eq_true h1, listE_eq h2]
      · cases h2
    | _ => cases h
  | own T z n l =>
    cases y with
    | own U z' n' m =>
      rcases bo_cases (show bo (Nat.beq T U && (Nat.beq z z' && Nat.beq n n')) (listE l m) false = true from h) with ⟨h1, h2⟩ | ⟨_, h2⟩
      · rw [Bool.and_eq_true, Bool.and_eq_true] at h1
        rw [Nat.eq_of_beq_eq_true h1.1, Nat.eq_of_beq_eq_true h1.2.1, Nat.eq_of_beq_eq_true h1.2.2, listE_eq h2]
      · cases h2
    | _ => cases h
  | _ => exact Blk.eqB_eq h
theorem optE_eq {α : Type} {f : α → α → Bool} (hf : ∀ a b, f a b = true → a = b) {x y : Option α} (h : optE f x y = true) : x = y := by
  cases x with
  | none =>
    cases y with
    | none => rfl
    | some _ => cases h
  | some a =>
    cases y with
    | none => cases h
    | some b => rw [hf a b h]
theorem trE_eq {α : Type} {f : α → α → Bool} (hf : ∀ a b, f a b = true → a = b) : ∀ {s t : Tr α}, trE f s t = true → s = t
  | .e, .e, _ => rfl
  | .e, .n _ _ _, h => by cases h
  | .n _ _ _, .e, h => by cases h
  | .n l v r, .n l' v' r', h => by
    rcases bo_cases (show bo (optE f v v') (bo (trE f l l') (trE f r r') false) false = true from h) with ⟨h1, h2⟩ | ⟨_, h2⟩
    · rcases bo_cases h2 with ⟨h3, h4⟩ | ⟨_, h4⟩
      · rw [optE_eq hf h1, trE_eq hf h3, trE_eq hf h4]
      · cases h4
    · cases h2
theorem stE_eq {s t : St} (h : stE s t = true) : s = t := by
  unfold stE at h
  rcases bo_cases h with ⟨h1, h2⟩ | ⟨_, h2⟩
  · rcases bo_cases h2 with ⟨h3, h4⟩ | ⟨_, h4⟩
    · obtain ⟨e, b, n⟩ := s
      obtain ⟨e', b', n'⟩ := t
      have q1 : n = n' := Nat.eq_of_beq_eq_true h1
      have q2 : b = b' := trE_eq (fun _ _ => blkE_eq) h3
      have q3 : e = e' := N8.eqB_eq (fun _ _ => N8.eqB_eq fun _ _ => N8.eqB_eq fun _ _ => optE_eq fun _ _ => avE_eq) h4
      rw [q1, q2, q3]
    · cases h4
  · cases h2
/-- Calls, whole. -/
theorem gcalls_ok {C : Mch} (hm : C.P.follows .mixedOrders = true) (hk : ∀ f g, C.hk f = some g → ∀ hb h nx args v h' nx', g hb h nx args = some (v, h', nx') → FOk C.P f args h hb v h') (hO : ∀ f, C.ok f = true → ∀ as w, (callFunc f as).run C.P w = .ok (.enter f as) w) (d : Nat) : CallOk C.P (gF C stE d) :=
  gF_ok hk hO (fun _ hc => drOk hm (fun _ _ => stE_eq) hc) d
end
end Go.PK
