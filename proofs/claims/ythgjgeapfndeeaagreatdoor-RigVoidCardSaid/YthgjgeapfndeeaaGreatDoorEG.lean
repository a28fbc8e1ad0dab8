import Derived.Test.YthgjgeapfndeeaaGreatDoorBase
import Derived.Test.YthgjgeapfndeeaaGreatDoorEE
import Derived.Test.YthgjgeapfndeeaaGreatDoorMA
import Derived.Test.YthgjgeapfndeeaaGreatDoorCB
set_option linter.unusedVariables false
set_option linter.unusedSimpArgs false
/-
  EN, part 1: SHA-256 on numbers: bytes as a number, words as a number.
-/
namespace Go.Proofs.YthgjgeapfndeeaaGreatDoor
open Go.PK
/-- Bytes as a number. -/
def num (l : List B8) : Nat := l.foldl (fun a b => a * 256 + b.toNat) 0
theorem num_from (l : List B8) : ∀ a, l.foldl (fun a b => a * 256 + b.toNat) a = a * 256 ^ l.length + num l := by
  induction l with
  | nil => intro a; simp [num]
  | cons b l ih =>
    intro a
    rw [num, List.foldl_cons, List.foldl_cons, ih, ih, List.length_cons, Nat.pow_succ, Nat.add_mul, Nat.zero_mul, Nat.zero_add, Nat.mul_assoc, Nat.mul_comm 256, Nat.add_assoc]
theorem num_append (l m : List B8) : num (l ++ m) = num l * 256 ^ m.length + num m := by
  rw [num, List.foldl_append, num_from]; rfl
theorem num_one (b : B8) : num [b] = b.toNat := by simp [num]
theorem num_snoc (l : List B8) (b : B8) : num (l ++ [b]) = num l * 256 + b.toNat := by rw [num_append, num_one]; simp
theorem num_cons (b : B8) (l : List B8) : num (b :: l) = b.toNat * 256 ^ l.length + num l := by
  rw [show b :: l = [b] ++ l from rfl, num_append, num_one]
theorem num_lt : ∀ (l : List B8), num l < 256 ^ l.length
  | [] => by simp [num]
  | w :: l => by
    have hw := w.isLt
    have ih := num_lt l
    rw [num_cons, List.length_cons, Nat.pow_succ, Nat.mul_comm _ 256]
    have : w.toNat + 1 ≤ 256 := hw
    have := Nat.mul_le_mul_right (256 ^ l.length) this
    rw [Nat.add_mul, Nat.one_mul] at this
    omega
theorem num_zeros : ∀ n, num (List.replicate n 0#8) = 0
  | 0 => rfl
  | n + 1 => by rw [List.replicate_succ', num_snoc, num_zeros n]; rfl
/-- A part of a number. -/
theorem num_part (l m r : List B8) : num (l ++ m ++ r) / 256 ^ r.length % 256 ^ m.length = num m := by
  have h1 := num_lt r
  have h2 := num_lt m
  rw [num_append, num_append, Nat.add_comm, Nat.add_mul_div_right _ _ (Nat.pos_of_ne_zero (by simp)), Nat.div_eq_of_lt h1, Nat.zero_add, Nat.add_comm, Nat.add_mul_mod_self_right, Nat.mod_eq_of_lt h2]
theorem num_byte (l : List B8) (b : B8) (r : List B8) : num (l ++ b :: r) / 256 ^ r.length % 256 = b.toNat := by
  have := num_part l [b] r
  rw [num_one] at this
  simpa using this
theorem num_word (a b c d : B8) : num [a, b, c, d] = (be a b c d).toNat := by
  have h1 := a.isLt; have h2 := b.isLt; have h3 := c.isLt; have h4 := d.isLt
  have e1 : (a.setWidth 32 <<< 24 : B32).toNat = a.toNat * 2 ^ 24 := by
    rw [BitVec.toNat_shiftLeft, BitVec.toNat_setWidth, Nat.shiftLeft_eq, Nat.mod_eq_of_lt (by omega)]; omega
  have e2 : (b.setWidth 32 <<< 16 : B32).toNat = b.toNat * 2 ^ 16 := by
    rw [BitVec.toNat_shiftLeft, BitVec.toNat_setWidth, Nat.shiftLeft_eq, Nat.mod_eq_of_lt (by omega)]; omega
  have e3 : (c.setWidth 32 <<< 8 : B32).toNat = c.toNat * 2 ^ 8 := by
    rw [BitVec.toNat_shiftLeft, BitVec.toNat_setWidth, Nat.shiftLeft_eq, Nat.mod_eq_of_lt (by omega)]; omega
  have e4 : (d.setWidth 32 : B32).toNat = d.toNat := by rw [BitVec.toNat_setWidth]; omega
  have o1 : a.toNat * 2 ^ 24 ||| b.toNat * 2 ^ 16 = a.toNat * 2 ^ 24 + b.toNat * 2 ^ 16 := by
    rw [← Nat.shiftLeft_eq, Nat.shiftLeft_add_eq_or_of_lt (by omega)]
  have o2 : (a.toNat * 2 ^ 24 + b.toNat * 2 ^ 16) ||| c.toNat * 2 ^ 8 = a.toNat * 2 ^ 24 + b.toNat * 2 ^ 16 + c.toNat * 2 ^ 8 := by
    rw [show a.toNat * 2 ^ 24 + b.toNat * 2 ^ 16 = (a.toNat * 256 + b.toNat) <<< 16 by rw [Nat.shiftLeft_eq]; omega, Nat.shiftLeft_add_eq_or_of_lt (by omega)]
  have o3 : (a.toNat * 2 ^ 24 + b.toNat * 2 ^ 16 + c.toNat * 2 ^ 8) ||| d.toNat = a.toNat * 2 ^ 24 + b.toNat * 2 ^ 16 + c.toNat * 2 ^ 8 + d.toNat := by
    rw [show a.toNat * 2 ^ 24 + b.toNat * 2 ^ 16 + c.toNat * 2 ^ 8 = (a.toNat * 65536 + b.toNat * 256 + c.toNat) <<< 8 by rw [Nat.shiftLeft_eq]; omega, Nat.shiftLeft_add_eq_or_of_lt (by omega)]
  rw [be, BitVec.toNat_or, BitVec.toNat_or, BitVec.toNat_or, e1, e2, e3, e4, o1, o2, o3]
  simp only [num, List.foldl_cons, List.foldl_nil]
  omega
/-! ### Words -/
def numW (l : List B32) : Nat := l.foldl (fun a b => a * 4294967296 + b.toNat) 0
theorem numW_from (l : List B32) : ∀ a, l.foldl (fun a b => a * 4294967296 + b.toNat) a = a * 4294967296 ^ l.length + numW l := by
  induction l with
  | nil => intro a; simp [numW]
  | cons b l ih =>
    intro a
    rw [numW, List.foldl_cons, List.foldl_cons, ih, ih, List.length_cons, Nat.pow_succ, Nat.add_mul, Nat.zero_mul, Nat.zero_add, Nat.mul_assoc, Nat.mul_comm 4294967296, Nat.add_assoc]
theorem numW_append (l m : List B32) : numW (l ++ m) = numW l * 4294967296 ^ m.length + numW m := by
  rw [numW, List.foldl_append, numW_from]; rfl
theorem numW_cons (w : B32) (l : List B32) : numW (w :: l) = w.toNat * 4294967296 ^ l.length + numW l := by
  rw [show w :: l = [w] ++ l from rfl, numW_append]; simp [numW]
theorem numW_lt : ∀ (l : List B32), numW l < 4294967296 ^ l.length
  | [] => by simp [numW]
  | w :: l => by
    have hw := w.isLt
    have ih := numW_lt l
    rw [numW_cons, List.length_cons, Nat.pow_succ, Nat.mul_comm _ 4294967296]
    have : w.toNat + 1 ≤ 4294967296 := hw
    have := Nat.mul_le_mul_right (4294967296 ^ l.length) this
    rw [Nat.add_mul, Nat.one_mul] at this
    omega
theorem numW_word (l : List B32) (w : B32) (r : List B32) : numW (l ++ w :: r) / 4294967296 ^ r.length % 4294967296 = w.toNat := by
  have h1 := numW_lt r
  have h2 := w.isLt
  rw [numW_append, numW_cons, List.length_cons, Nat.pow_succ, Nat.mul_comm (4294967296 ^ r.length), ← Nat.mul_assoc, ← Nat.add_assoc, ← Nat.add_mul, Nat.add_comm, Nat.add_mul_div_right _ _ (Nat.pos_of_ne_zero (by simp)), Nat.div_eq_of_lt h1, Nat.zero_add, Nat.add_comm, Nat.add_mul_mod_self_right, Nat.mod_eq_of_lt h2]
def wbytes (w : B32) : List B8 := [(w >>> 24).setWidth 8, (w >>> 16).setWidth 8, (w >>> 8).setWidth 8, w.setWidth 8]
theorem num_wbytes (w : B32) : num (wbytes w) = w.toNat := by
  have := w.isLt
  simp only [num, wbytes, List.foldl_cons, List.foldl_nil, BitVec.toNat_setWidth, BitVec.toNat_ushiftRight, Nat.shiftRight_eq_div_pow]
  omega
theorem num_words : ∀ (l : List B32), num (l.flatMap wbytes) = numW l
  | [] => rfl
  | w :: l => by
    have hl : ∀ l : List B32, (l.flatMap wbytes).length = 4 * l.length := fun l => by
      induction l with
      | nil => rfl
      | cons w l ih => rw [List.flatMap_cons, List.length_append, ih, List.length_cons]; show 4 + _ = _; omega
    rw [List.flatMap_cons, num_append, num_words l, num_wbytes, numW_cons, hl, Nat.pow_mul]
end Go.Proofs.YthgjgeapfndeeaaGreatDoor

/-
  EN, part 2: SHA-256 on numbers: one block.
-/
namespace Go.Proofs.YthgjgeapfndeeaaGreatDoor
open Go.PK
def sg (x a b c : Nat) : Nat := (fun y => Nat.mod (Nat.xor (Nat.shiftRight y a) (Nat.xor (Nat.shiftRight y b) (Nat.shiftRight y c))) 4294967296) (Nat.mul x 4294967297)
def sm (x a b c : Nat) : Nat := Nat.xor (Nat.mod ((fun y => Nat.xor (Nat.shiftRight y a) (Nat.shiftRight y b)) (Nat.mul x 4294967297)) 4294967296) (Nat.shiftRight x c)
def p32 (D x : Nat) : Nat := Nat.add (Nat.mul D 4294967296) x
def w32 (D s : Nat) : Nat := Nat.mod (Nat.shiftRight D s) 4294967296
def a32 (x y : Nat) : Nat := Nat.mod (Nat.add x y) 4294967296
abbrev RdT := Nat → Nat → Nat → Nat → Nat → Nat → Nat → Nat → Nat → Nat → Nat → Nat → Nat → Nat → Nat → Nat → Nat → Nat → Nat → Nat → Nat → Nat → Nat → Nat → Nat
noncomputable def rdN (fin : Nat → Nat → Nat → Nat → Nat → Nat → Nat → Nat → Nat) (K : List Nat) : RdT := List.rec (motive := fun _ => RdT) (fun a b c d e f g h _ _ _ _ _ _ _ _ _ _ _ _ _ _ _ _ => fin a b c d e f g h)
  (fun k _ ih a b c d e f g h w0 w1 w2 w3 w4 w5 w6 w7 w8 w9 w10 w11 w12 w13 w14 w15 =>
    (fun t => ih (a32 t (Nat.add (sg a 2 13 22) (Nat.lor (Nat.land a (Nat.lor b c)) (Nat.land b c)))) a b c (a32 d t) e f g w1 w2 w3 w4 w5 w6 w7 w8 w9 w10 w11 w12 w13 w14 w15
      (Nat.mod (Nat.add (Nat.add (sm w14 17 19 10) w9) (Nat.add (sm w1 7 18 3) w0)) 4294967296))
     (Nat.add (Nat.add h (sg e 6 11 25)) (Nat.add (Nat.xor g (Nat.land e (Nat.xor f g))) (Nat.add k w0)))) K
def shKN : List Nat := [1116352408, 1899447441, 3049323471, 3921009573, 961987163, 1508970993, 2453635748, 2870763221, 3624381080, 310598401, 607225278, 1426881987, 1925078388, 2162078206, 2614888103, 3248222580, 3835390401, 4022224774, 264347078, 604807628, 770255983, 1249150122, 1555081692, 1996064986, 2554220882, 2821834349, 2952996808, 3210313671, 3336571891, 3584528711, 113926993, 338241895, 666307205, 773529912, 1294757372, 1396182291, 1695183700, 1986661051, 2177026350, 2456956037, 2730485921, 2820302411, 3259730800, 3345764771, 3516065817, 3600352804, 4094571909, 275423344, 430227734, 506948616, 659060556, 883997877, 958139571, 1322822218, 1537002063, 1747873779, 1955562222, 2024104815, 2227730452, 2361852424, 2428436474, 2756734187, 3204031479, 3329325298]
def finN (D a b c d e f g h : Nat) : Nat := p32 (p32 (p32 (p32 (p32 (p32 (p32 (a32 (w32 D 224) a) (a32 (w32 D 192) b)) (a32 (w32 D 160) c)) (a32 (w32 D 128) d)) (a32 (w32 D 96) e)) (a32 (w32 D 64) f)) (a32 (w32 D 32) g)) (a32 (w32 D 0) h)
noncomputable def blkN (D M : Nat) : Nat := frcN (fun m0 => frcN (fun m1 => frcN (fun m2 => frcN (fun m3 => frcN (fun m4 => frcN (fun m5 => frcN (fun m6 => frcN (fun m7 => frcN (fun m8 => frcN (fun m9 => frcN (fun m10 => frcN (fun m11 => frcN (fun m12 => frcN (fun m13 => frcN (fun m14 => frcN (fun m15 => rdN (finN D) shKN (w32 D 224) (w32 D 192) (w32 D 160) (w32 D 128) (w32 D 96) (w32 D 64) (w32 D 32) (w32 D 0) m0 m1 m2 m3 m4 m5 m6 m7 m8 m9 m10 m11 m12 m13 m14 m15) (w32 M 0)) (w32 M 32)) (w32 M 64)) (w32 M 96)) (w32 M 128)) (w32 M 160)) (w32 M 192)) (w32 M 224)) (w32 M 256)) (w32 M 288)) (w32 M 320)) (w32 M 352)) (w32 M 384)) (w32 M 416)) (w32 M 448)) (w32 M 480)
def ivN : Nat := 47962653771679561900652889051773562940742041696833059450490514104358170316057
theorem shKN_eq : shKN = K.map BitVec.toNat := rfl
theorem rot_eq (x : B32) {n : Nat} (h : n ≤ 32) : (x.toNat * 4294967297) / 2 ^ n % 4294967296 = (rotr x n).toNat := by
  have hx := x.isLt
  rw [rotr_nat x n h]
  have e : (4294967296 : Nat) = 2 ^ (32 - n) * 2 ^ n := by rw [← Nat.pow_add]; have : 32 - n + n = 32 := by omega
                                                           rw [this]
  have h1 : x.toNat * 4294967297 / 2 ^ n = x.toNat * 2 ^ (32 - n) + x.toNat / 2 ^ n := by
    rw [show x.toNat * 4294967297 = x.toNat + x.toNat * 4294967296 by omega, e, ← Nat.mul_assoc, Nat.add_mul_div_right _ _ (Nat.two_pow_pos n), Nat.add_comm]
  have h2 : x.toNat * 2 ^ (32 - n) % 4294967296 = x.toNat % 2 ^ n * 2 ^ (32 - n) := by
    rw [e, Nat.mul_comm (2 ^ (32 - n)) (2 ^ n), Nat.mul_mod_mul_right]
  have h3 : x.toNat / 2 ^ n < 2 ^ (32 - n) := by
    rw [Nat.div_lt_iff_lt_mul (Nat.two_pow_pos n), ← e]; exact hx
  have h4 : x.toNat % 2 ^ n * 2 ^ (32 - n) + x.toNat / 2 ^ n < 4294967296 := by
    have h5 : x.toNat % 2 ^ n + 1 ≤ 2 ^ n := Nat.mod_lt _ (Nat.two_pow_pos n)
    have := Nat.mul_le_mul_right (2 ^ (32 - n)) h5
    rw [Nat.add_mul, Nat.one_mul, Nat.mul_comm (2 ^ n), ← e] at this
    omega
  rw [h1, Nat.add_mod, h2, Nat.mod_eq_of_lt (a := x.toNat / 2 ^ n) (by omega), Nat.mod_eq_of_lt h4, Nat.add_comm]
theorem sg_eq (x : B32) {a b c : Nat} (ha : a ≤ 32) (hb : b ≤ 32) (hc : c ≤ 32) : sg x.toNat a b c = (rotr x a ^^^ rotr x b ^^^ rotr x c).toNat := by
  show ((x.toNat * 4294967297) >>> a ^^^ ((x.toNat * 4294967297) >>> b ^^^ (x.toNat * 4294967297) >>> c)) % 2 ^ 32 = _
  rw [Nat.xor_mod_two_pow, Nat.xor_mod_two_pow, Nat.shiftRight_eq_div_pow, Nat.shiftRight_eq_div_pow, Nat.shiftRight_eq_div_pow]
  rw [show (2 : Nat) ^ 32 = 4294967296 from rfl, rot_eq x ha, rot_eq x hb, rot_eq x hc, ← BitVec.toNat_xor, ← BitVec.toNat_xor, BitVec.xor_assoc]
theorem sm_eq (x : B32) {a b c : Nat} (ha : a ≤ 32) (hb : b ≤ 32) : sm x.toNat a b c = (rotr x a ^^^ rotr x b ^^^ x >>> c).toNat := by
  show ((x.toNat * 4294967297) >>> a ^^^ (x.toNat * 4294967297) >>> b) % 2 ^ 32 ^^^ x.toNat >>> c = _
  rw [Nat.xor_mod_two_pow, Nat.shiftRight_eq_div_pow, Nat.shiftRight_eq_div_pow]
  rw [show (2 : Nat) ^ 32 = 4294967296 from rfl, rot_eq x ha, rot_eq x hb, ← BitVec.toNat_ushiftRight, ← BitVec.toNat_xor, ← BitVec.toNat_xor]
theorem ch_eq (e f g : B32) : Nat.xor g.toNat (Nat.land e.toNat (Nat.xor f.toNat g.toNat)) = (e &&& f ^^^ ~~~e &&& g).toNat := by
  have : e &&& f ^^^ ~~~e &&& g = g ^^^ (e &&& (f ^^^ g)) := by
    ext i hi
    simp only [BitVec.getElem_xor, BitVec.getElem_and, BitVec.getElem_not]
    cases e[i] <;> cases f[i] <;> cases g[i] <;> rfl
  rw [this, BitVec.toNat_xor, BitVec.toNat_and, BitVec.toNat_xor]; rfl
theorem mj_eq (a b c : B32) : Nat.lor (Nat.land a.toNat (Nat.lor b.toNat c.toNat)) (Nat.land b.toNat c.toNat) = (a &&& b ^^^ a &&& c ^^^ b &&& c).toNat := by
  have : a &&& b ^^^ a &&& c ^^^ b &&& c = a &&& (b ||| c) ||| b &&& c := by
    ext i hi
    simp only [BitVec.getElem_xor, BitVec.getElem_and, BitVec.getElem_or]
    cases a[i] <;> cases b[i] <;> cases c[i] <;> rfl
  rw [this, BitVec.toNat_or, BitVec.toNat_and, BitVec.toNat_or, BitVec.toNat_and]; rfl
def tvN (h e f g k w : Nat) : Nat := Nat.add (Nat.add h (sg e 6 11 25)) (Nat.add (Nat.xor g (Nat.land e (Nat.xor f g))) (Nat.add k w))
def tN (s : S8) (k w : B32) : Nat := tvN s.h.toNat s.e.toNat s.f.toNat s.g.toNat k.toNat w.toNat
theorem rdN_cons (fin : Nat → Nat → Nat → Nat → Nat → Nat → Nat → Nat → Nat) (k : Nat) (ks : List Nat) (a b c d e f g h w0 w1 w2 w3 w4 w5 w6 w7 w8 w9 w10 w11 w12 w13 w14 w15 : Nat) : rdN fin (k :: ks) a b c d e f g h w0 w1 w2 w3 w4 w5 w6 w7 w8 w9 w10 w11 w12 w13 w14 w15 =
    rdN fin ks (a32 (tvN h e f g k w0) (Nat.add (sg a 2 13 22) (Nat.lor (Nat.land a (Nat.lor b c)) (Nat.land b c)))) a b c (a32 d (tvN h e f g k w0)) e f g w1 w2 w3 w4 w5 w6 w7 w8 w9 w10 w11 w12 w13 w14 w15
      (Nat.mod (Nat.add (Nat.add (sm w14 17 19 10) w9) (Nat.add (sm w1 7 18 3) w0)) 4294967296) := by
  unfold rdN
  rfl
theorem tN_mod (s : S8) (k w : B32) : tN s k w % 4294967296 = (tt s k w).toNat := by
  unfold tN tvN tt
  rw [sg_eq s.e (by decide) (by decide) (by decide), ch_eq]
  simp only [BitVec.toNat_add]
  show (s.h.toNat + _ + (_ + (k.toNat + w.toNat))) % 4294967296 = _
  generalize (rotr s.e 6 ^^^ rotr s.e 11 ^^^ rotr s.e 25).toNat = A
  generalize (s.e &&& s.f ^^^ ~~~s.e &&& s.g).toNat = B
  omega
theorem a_eq (s : S8) (k w : B32) : a32 (tN s k w) (Nat.add (sg s.a.toNat 2 13 22) (Nat.lor (Nat.land s.a.toNat (Nat.lor s.b.toNat s.c.toNat)) (Nat.land s.b.toNat s.c.toNat))) = (tt s k w + uu s).toNat := by
  have h := tN_mod s k w
  unfold a32 uu
  rw [sg_eq s.a (by decide) (by decide) (by decide), mj_eq]
  simp only [BitVec.toNat_add]
  rw [← h]
  show (tN s k w + (_ + _)) % 4294967296 = _
  generalize (rotr s.a 2 ^^^ rotr s.a 13 ^^^ rotr s.a 22).toNat = A
  generalize (s.a &&& s.b ^^^ s.a &&& s.c ^^^ s.b &&& s.c).toNat = B
  omega
theorem e_eq (s : S8) (k w : B32) : a32 s.d.toNat (tN s k w) = (s.d + tt s k w).toNat := by
  have h := tN_mod s k w
  rw [BitVec.toNat_add, ← h]
  show (s.d.toNat + tN s k w) % 4294967296 = _
  omega
/-! #### The words -/
def Wd (m : List B8) (n : Nat) : B32 := word m (ws m n) n
theorem wsg (m : List B8) : ∀ n j, j < n → (ws m n).getD j 0 = Wd m j
  | 0, j, h => by omega
  | n + 1, j, h => by
    rw [ws]
    by_cases e : j < n
    · have := wsg m n j e
      rw [List.getD_eq_getElem?_getD] at this ⊢
      rw [List.getElem?_append_left (by rw [ws_length]; exact e)]; exact this
    · have : j = n := by omega
      subst this
      rw [List.getD_eq_getElem?_getD, List.getElem?_append_right (by rw [ws_length]; omega), ws_length]; simp [Wd]
theorem Wd_next (m : List B8) (n : Nat) : Wd m (n + 16) = ssig1 (Wd m (n + 14)) + Wd m (n + 9) + ssig0 (Wd m (n + 1)) + Wd m n := by
  unfold Wd
  rw [word, if_neg (by omega), show n + 16 - 2 = n + 14 by omega, show n + 16 - 7 = n + 9 by omega, show n + 16 - 15 = n + 1 by omega, show n + 16 - 16 = n by omega]
  rw [wsg m _ _ (by omega), wsg m _ _ (by omega), wsg m _ _ (by omega), wsg m _ _ (by omega)]
  rfl
theorem next_eq (m : List B8) (n : Nat) : Nat.mod (Nat.add (Nat.add (sm (Wd m (n + 14)).toNat 17 19 10) (Wd m (n + 9)).toNat) (Nat.add (sm (Wd m (n + 1)).toNat 7 18 3) (Wd m n).toNat)) 4294967296 = (Wd m (n + 16)).toNat := by
  rw [Wd_next, sm_eq _ (by decide) (by decide), sm_eq _ (by decide) (by decide)]
  simp only [BitVec.toNat_add]
  show (_ + _ + (_ + _)) % 4294967296 = _
  rw [show rotr (Wd m (n + 14)) 17 ^^^ rotr (Wd m (n + 14)) 19 ^^^ Wd m (n + 14) >>> 10 = ssig1 (Wd m (n + 14)) from rfl, show rotr (Wd m (n + 1)) 7 ^^^ rotr (Wd m (n + 1)) 18 ^^^ Wd m (n + 1) >>> 3 = ssig0 (Wd m (n + 1)) from rfl]
  generalize (ssig1 (Wd m (n + 14))).toNat = A
  generalize (ssig0 (Wd m (n + 1))).toNat = B
  omega
def finS (fin : Nat → Nat → Nat → Nat → Nat → Nat → Nat → Nat → Nat) (r : S8) : Nat := fin r.a.toNat r.b.toNat r.c.toNat r.d.toNat r.e.toNat r.f.toNat r.g.toNat r.h.toNat
theorem rdN_ok (fin : Nat → Nat → Nat → Nat → Nat → Nat → Nat → Nat → Nat) (s : S8) (m : List B8) : ∀ (ks : List B32) (n : Nat) (r : S8), K.drop n = ks → n + ks.length = 64 → r = rounds s (ws m 64) n →
    rdN fin (ks.map BitVec.toNat) r.a.toNat r.b.toNat r.c.toNat r.d.toNat r.e.toNat r.f.toNat r.g.toNat r.h.toNat (Wd m n).toNat (Wd m (n + 1)).toNat (Wd m (n + 2)).toNat (Wd m (n + 3)).toNat (Wd m (n + 4)).toNat (Wd m (n + 5)).toNat (Wd m (n + 6)).toNat (Wd m (n + 7)).toNat (Wd m (n + 8)).toNat (Wd m (n + 9)).toNat (Wd m (n + 10)).toNat (Wd m (n + 11)).toNat (Wd m (n + 12)).toNat (Wd m (n + 13)).toNat (Wd m (n + 14)).toNat (Wd m (n + 15)).toNat = finS fin (rounds s (ws m 64) 64)
  | [], n, r, _, hn, hr => by
    have : n = 64 := by simpa using hn
    subst this; rw [← hr]; rfl
  | k :: ks, n, r, hk, hn, hr => by
    have hlt : n < 64 := by rw [List.length_cons] at hn; omega
    have hk0 : K.getD n 0 = k := by
      have : (K.drop n)[0]? = some k := by rw [hk]; rfl
      rw [List.getElem?_drop, Nat.add_zero] at this
      rw [List.getD_eq_getElem?_getD, this]; rfl
    have hk1 : K.drop (n + 1) = ks := by rw [← List.drop_drop, hk]; rfl
    have hr2 : rounds s (ws m 64) (n + 1) = rnd r k (Wd m n) := by
      rw [rounds, hk0, wsg m 64 n hlt, ← hr]
    have ih := rdN_ok fin s m ks (n + 1) (rnd r k (Wd m n)) hk1 (by rw [List.length_cons] at hn; omega) hr2.symm
    simp only [Nat.add_assoc, Nat.reduceAdd] at ih
    rw [← ih, List.map_cons, rdN_cons, next_eq]
    have e1 : tvN r.h.toNat r.e.toNat r.f.toNat r.g.toNat k.toNat (Wd m n).toNat = tN r k (Wd m n) := rfl
    rw [e1, a_eq, e_eq]
    rfl
def S8.l (s : S8) : List B32 := [s.a, s.b, s.c, s.d, s.e, s.f, s.g, s.h]
theorem w32_at (l : List B32) (w : B32) (r : List B32) {s : Nat} (h : s = 32 * r.length) : w32 (numW (l ++ w :: r)) s = w.toNat := by
  show numW (l ++ w :: r) >>> s % 4294967296 = _
  rw [Nat.shiftRight_eq_div_pow, h, Nat.pow_mul]; exact numW_word l w r
theorem Wd_lt {m : List B8} {i : Nat} (hi : i < 16) : Wd m i = be (m.getD (4 * i) 0) (m.getD (4 * i + 1) 0) (m.getD (4 * i + 2) 0) (m.getD (4 * i + 3) 0) := by
  unfold Wd; rw [word, if_pos hi]
theorem word_at (m : List B8) (hm : m.length = 64) (i : Nat) (hi : i < 16) : w32 (num m) (480 - 32 * i) = (Wd m i).toNat := by
  have h4 : m = m.take (4 * i) ++ [m.getD (4 * i) 0, m.getD (4 * i + 1) 0, m.getD (4 * i + 2) 0, m.getD (4 * i + 3) 0] ++ m.drop (4 * i + 4) := by
    apply List.ext_getElem?
    intro j
    by_cases h1 : j < 4 * i
    · rw [List.append_assoc, List.getElem?_append_left (by rw [List.length_take]; omega), List.getElem?_take_of_lt h1]
    · by_cases h2 : j < 4 * i + 4
      · rw [List.getElem?_append_left (by simp; omega), List.getElem?_append_right (by rw [List.length_take]; omega), List.length_take, Nat.min_eq_left (by omega)]
        have hj : j < m.length := by omega
        have hg : ∀ d, d < m.length → m[d]? = some (m.getD d 0) := fun d hd => by rw [List.getD_eq_getElem?_getD, List.getElem?_eq_getElem hd]; rfl
        rcases (show j = 4 * i ∨ j = 4 * i + 1 ∨ j = 4 * i + 2 ∨ j = 4 * i + 3 by omega) with rfl | rfl | rfl | rfl
        · rw [Nat.sub_self, hg _ hj]; rfl
        · rw [Nat.add_sub_cancel_left, hg _ hj]; rfl
        · rw [Nat.add_sub_cancel_left, hg _ hj]; rfl
        · rw [Nat.add_sub_cancel_left, hg _ hj]; rfl
      · rw [List.getElem?_append_right (by simp; omega), List.getElem?_drop]
        congr 1
        simp
        omega
  have h5 := num_part (m.take (4 * i)) [m.getD (4 * i) 0, m.getD (4 * i + 1) 0, m.getD (4 * i + 2) 0, m.getD (4 * i + 3) 0] (m.drop (4 * i + 4))
  rw [← h4, num_word, ← Wd_lt hi, List.length_drop, hm] at h5
  simp only [List.length_cons, List.length_nil, Nat.reduceAdd, Nat.reducePow] at h5
  rw [← h5]
  show num m >>> (480 - 32 * i) % 4294967296 = _
  rw [Nat.shiftRight_eq_div_pow, show (256 : Nat) ^ (64 - (4 * i + 4)) = 2 ^ (480 - 32 * i) by rw [show (256 : Nat) = 2 ^ 8 from rfl, ← Nat.pow_mul]; congr 1; omega]
theorem st_at (s : S8) : w32 (numW s.l) 224 = s.a.toNat ∧ w32 (numW s.l) 192 = s.b.toNat ∧ w32 (numW s.l) 160 = s.c.toNat ∧ w32 (numW s.l) 128 = s.d.toNat ∧ w32 (numW s.l) 96 = s.e.toNat ∧ w32 (numW s.l) 64 = s.f.toNat ∧ w32 (numW s.l) 32 = s.g.toNat ∧ w32 (numW s.l) 0 = s.h.toNat :=
  ⟨w32_at [] s.a [s.b, s.c, s.d, s.e, s.f, s.g, s.h] rfl, w32_at [s.a] s.b [s.c, s.d, s.e, s.f, s.g, s.h] rfl, w32_at [s.a, s.b] s.c [s.d, s.e, s.f, s.g, s.h] rfl, w32_at [s.a, s.b, s.c] s.d [s.e, s.f, s.g, s.h] rfl,
    w32_at [s.a, s.b, s.c, s.d] s.e [s.f, s.g, s.h] rfl, w32_at [s.a, s.b, s.c, s.d, s.e] s.f [s.g, s.h] rfl, w32_at [s.a, s.b, s.c, s.d, s.e, s.f] s.g [s.h] rfl, w32_at [s.a, s.b, s.c, s.d, s.e, s.f, s.g] s.h [] rfl⟩
theorem a32_eq (x y : B32) : a32 x.toNat y.toNat = (x + y).toNat := by
  rw [BitVec.toNat_add, show (2 : Nat) ^ 32 = 4294967296 from rfl]; rfl
theorem p32_eq (D x : Nat) : p32 D x = D * 4294967296 + x := rfl
theorem fin_ok (s r : S8) : finS (finN (numW s.l)) r = numW (addS s r).l := by
  obtain ⟨q0, q1, q2, q3, q4, q5, q6, q7⟩ := st_at s
  unfold finS finN
  rw [q0, q1, q2, q3, q4, q5, q6, q7]
  simp only [a32_eq, p32_eq]
  simp only [numW, S8.l, addS, List.foldl_cons, List.foldl_nil, Nat.zero_mul, Nat.zero_add]
theorem blkN_go (D M : Nat) (x : Nat → Nat) (a b c d e f g h : Nat) (ha : w32 D 224 = a) (hb : w32 D 192 = b) (hc : w32 D 160 = c) (hd : w32 D 128 = d) (he : w32 D 96 = e) (hf : w32 D 64 = f) (hg : w32 D 32 = g) (hh : w32 D 0 = h) (hx : ∀ i, i < 16 → w32 M (480 - 32 * i) = x i) :
    blkN D M = rdN (finN D) shKN a b c d e f g h (x 0) (x 1) (x 2) (x 3) (x 4) (x 5) (x 6) (x 7) (x 8) (x 9) (x 10) (x 11) (x 12) (x 13) (x 14) (x 15) := by
  subst ha hb hc hd he hf hg hh
  unfold blkN
  simp only [frcN_eq]
  rw [← hx 0 (by decide), ← hx 1 (by decide), ← hx 2 (by decide), ← hx 3 (by decide), ← hx 4 (by decide), ← hx 5 (by decide), ← hx 6 (by decide), ← hx 7 (by decide), ← hx 8 (by decide), ← hx 9 (by decide), ← hx 10 (by decide), ← hx 11 (by decide), ← hx 12 (by decide), ← hx 13 (by decide), ← hx 14 (by decide), ← hx 15 (by decide)]
theorem blkN_ok (s : S8) (m : List B8) (hm : m.length = 64) : blkN (numW s.l) (num m) = numW (comp s m).l := by
  obtain ⟨q0, q1, q2, q3, q4, q5, q6, q7⟩ := st_at s
  have hk : (0 : Nat) + K.length = 64 := by decide
  have h := rdN_ok (finN (numW s.l)) s m K 0 s rfl hk rfl
  simp only [Nat.zero_add] at h
  rw [blkN_go _ _ (fun i => (Wd m i).toNat) _ _ _ _ _ _ _ _ q0 q1 q2 q3 q4 q5 q6 q7 (word_at m hm), shKN_eq, h, fin_ok]
  rfl
end Go.Proofs.YthgjgeapfndeeaaGreatDoor

/-
  EN, part 3: SHA-256 on numbers: messages, codes, digests' bytes.
-/
namespace Go.Proofs.YthgjgeapfndeeaaGreatDoor
open Go.PK
def B512 : Nat := 13407807929942597099574024998205846127479365820592393377723561443721764030073546976801874298166903427690031858186486050853753882811946569946433649006084096
theorem B512_eq : B512 = 256 ^ 64 := by kernel_rfl
/-- 'n' blocks of a number, the first first. -/
noncomputable def blksN : Nat → Nat → Nat → Nat
  | 0 => fun D _ => D
  | n + 1 => fun D M => blksN n (frcN (fun D => frcN (fun X => blkN D X) (Nat.mod (Nat.shiftRight M (512 * n)) B512)) D) M
/-- A message of 'l' bytes, behind 'pre' bytes that were taken. -/
noncomputable def shaN (D pre l M : Nat) : Nat := (fun n => blksN n D (Nat.add (Nat.mul (Nat.add (Nat.mul M 256) 128) (Nat.pow 256 (Nat.sub (Nat.mul n 64) (Nat.add l 1)))) (Nat.mul 8 (Nat.add pre l)))) (Nat.div (Nat.add l 72) 64)
def IPAD : Nat := 2839300502811373503439205293737708591701512762007800950576754188082255912250868771558043969023579549393183217027726457827853763419000450106303596260111926
def OPAD : Nat := 4837326782567525228081609018960540563639614335272549767649284913029028591242220870061852687966098491558756591973163594817824930269408174255183904739449948
noncomputable def macN (k : Nat) (l M : Nat) : Nat := (fun k64 => frcN (fun i => shaN (blkN ivN (Nat.xor k64 OPAD)) 64 32 i) (shaN (blkN ivN (Nat.xor k64 IPAD)) 64 l M)) (Nat.shiftLeft k 256)
theorem blksN_ok : ∀ (n : Nat) (p bl : List B8) (s : S8), bl.length = 64 * n → blksN n (numW s.l) (num (p ++ bl)) = numW (absorb s bl).1.l
  | 0, p, bl, s, h => by
    rw [absorb_lt (by omega)]; rfl
  | n + 1, p, bl, s, h => by
    have e := num_part p (bl.take 64) (bl.drop 64)
    rw [List.append_assoc, List.take_append_drop, List.length_drop, h, List.length_take, h, Nat.min_eq_left (by omega), show 64 * (n + 1) - 64 = 64 * n by omega] at e
    have e2 : Nat.mod (Nat.shiftRight (num (p ++ bl)) (512 * n)) B512 = num (bl.take 64) := by
      rw [← e]
      show num (p ++ bl) >>> (512 * n) % _ = _
      rw [Nat.shiftRight_eq_div_pow, B512_eq, show (2 : Nat) ^ (512 * n) = 256 ^ (64 * n) by rw [show (256 : Nat) = 2 ^ 8 from rfl, ← Nat.pow_mul]; congr 1; omega]
    rw [blksN]
    dsimp only
    rw [frcN_eq, e2, frcN_eq, blkN_ok s _ (by rw [List.length_take, h]; omega), absorb_ge (by omega)]
    have ih := blksN_ok n (p ++ bl.take 64) (bl.drop 64) (comp s (bl.take 64)) (by rw [List.length_drop]; omega)
    rw [List.append_assoc, List.take_append_drop] at ih
    exact ih
theorem num_be8 (n : Nat) (h : n < 18446744073709551616) : num (be8 n) = n := by
  simp only [num, be8, List.foldl_cons, List.foldl_nil, BitVec.toNat_ofNat]
  omega
theorem shaN_ok (s : S8) (p l : Nat) (m : List B8) (hm : m.length = l) (hp : p % 64 = 0) (hl : p + l < 1000000000000) : shaN (numW s.l) p l (num m) = numW (absorb s (m ++ padding (l % 64) (p + l))).1.l := by
  have hk : l % 64 < 64 := Nat.mod_lt _ (by decide)
  have hlen : (m ++ padding (l % 64) (p + l)).length = 64 * ((l + 72) / 64) := by
    rw [List.length_append, padding_length hk, hm]
    unfold padEnd
    split <;> omega
  have hb := blksN_ok ((l + 72) / 64) [] (m ++ padding (l % 64) (p + l)) s hlen
  rw [List.nil_append] at hb
  rw [← hb]
  have hz : padEnd (l % 64) - l % 64 - 9 + 8 = (l + 72) / 64 * 64 - (l + 1) := by
    unfold padEnd
    split <;> omega
  have hn : num (m ++ padding (l % 64) (p + l)) = (num m * 256 + 128) * 256 ^ ((l + 72) / 64 * 64 - (l + 1)) + 8 * (p + l) := by
    rw [padding, ← List.append_assoc, num_append, num_be8 _ (by omega), be8_length, show m ++ 128#8 :: List.replicate (padEnd (l % 64) - l % 64 - 9) 0#8 = (m ++ [128#8]) ++ List.replicate (padEnd (l % 64) - l % 64 - 9) 0#8 by simp, num_append, num_zeros, num_snoc, List.length_replicate, Nat.add_zero, Nat.mul_assoc, ← Nat.pow_add, hz]
    congr 1
    omega
  rw [hn]
  rfl
theorem sha_abs (m : List B8) : sha m = dig (absorb iv (m ++ padding (m.length % 64) m.length)).1 := by
  have h1 := after_rest m
  unfold sha fin
  rw [show (after m).1 = (absorb iv m).1 from rfl, show (after m).2 = (absorb iv m).2 from rfl, absorb_append m.length iv m _ (Nat.le_refl _)]
  rw [show (absorb iv m).2.length = m.length % 64 by have h2 : (absorb iv m).2.length < 64 := h1.1; have h3 : (absorb iv m).2.length % 64 = m.length % 64 := h1.2.2; omega]
theorem dig_words (s : S8) : dig s = s.l.flatMap wbytes := rfl
theorem num_dig (s : S8) : num (dig s) = numW s.l := by rw [dig_words, num_words]
theorem ivN_eq : ivN = numW iv.l := by kernel_rfl
theorem sha_num (m : List B8) (h : m.length < 1000000000) : num (sha m) = shaN ivN 0 m.length (num m) := by
  rw [sha_abs, num_dig, ivN_eq, shaN_ok iv 0 m.length m rfl rfl (by omega), Nat.zero_add]
/-- A whole block, and a message behind it. -/
theorem sha_blk (b m : List B8) (hb : b.length = 64) (h : m.length < 1000000000) : num (sha (b ++ m)) = shaN (blkN ivN (num b)) 64 m.length (num m) := by
  rw [sha_abs, num_dig, ivN_eq, blkN_ok iv b hb, shaN_ok (comp iv b) 64 m.length m rfl rfl (by omega), List.append_assoc, absorb_ge (by simp; omega), List.take_append_of_le_length (by omega), List.take_of_length_le (by omega), List.drop_append_of_le_length (by omega), List.drop_of_length_le (by omega), List.nil_append, List.length_append, hb]
  rw [show (64 + m.length) % 64 = m.length % 64 by omega]
theorem xor_digits (a c : Nat) {b d : Nat} (hb : b < 256) (hd : d < 256) : (a * 256 + b) ^^^ (c * 256 + d) = (a ^^^ c) * 256 + (b ^^^ d) := by
  have hx : b ^^^ d < 2 ^ 8 := Nat.xor_lt_two_pow hb hd
  apply Nat.eq_of_testBit_eq
  intro i
  have e : ∀ x y : Nat, y < 2 ^ 8 → (x * 256 + y).testBit i = if i < 8 then y.testBit i else x.testBit (i - 8) := fun x y hy => by
    rw [Nat.mul_comm, show (256 : Nat) = 2 ^ 8 from rfl, Nat.testBit_two_pow_mul_add _ hy]
  rw [Nat.testBit_xor, e a b hb, e c d hd, e _ _ hx]
  split
  · rw [Nat.testBit_xor]
  · rw [Nat.testBit_xor]
theorem num_xor (x : B8) : ∀ (n : Nat) (l : List B8), l.length = n → num (l.map (· ^^^ x)) = num l ^^^ num (List.replicate n x)
  | 0, l, h => by
    rw [List.length_eq_zero_iff.1 h]; simp [num]
  | n + 1, l, h => by
    have hne : l ≠ [] := fun e => by rw [e] at h; cases h
    have hd : l = l.dropLast ++ [l.getLast hne] := (List.dropLast_concat_getLast hne).symm
    have ih := num_xor x n l.dropLast (by rw [List.length_dropLast, h]; rfl)
    generalize l.getLast hne = b at hd
    rw [hd, List.map_append, List.map_singleton, num_snoc, num_snoc, List.replicate_succ', num_snoc, ih, xor_digits _ _ b.isLt x.isLt, BitVec.toNat_xor]
theorem ipad_eq : num (List.replicate 64 54#8) = IPAD := by kernel_rfl
theorem opad_eq : num (List.replicate 64 92#8) = OPAD := by kernel_rfl
theorem pad_num (k : List B8) (hk : k.length = 32) (x : B8) : num (padB k x) = Nat.xor (Nat.shiftLeft (num k) 256) (num (List.replicate 64 x)) := by
  have hkk : kk k = k := by unfold kk; rw [if_neg (by omega)]
  unfold padB
  rw [num_xor x 64 _ (padK_len k), padK, hkk, hk, num_append, num_zeros, List.length_replicate]
  show _ = num k <<< 256 ^^^ _
  rw [Nat.shiftLeft_eq, Nat.add_zero, show (256 : Nat) ^ (64 - 32) = 2 ^ 256 by rw [show (256 : Nat) = 2 ^ 8 from rfl, ← Nat.pow_mul]]
theorem mac_num (k : List B8) (hk : k.length = 32) (b : List B8) (hb : b.length < 1000000000) : num (macCode k b) = macN (num k) b.length (num b) := by
  unfold macCode macN
  dsimp only
  rw [frcN_eq, sha_blk _ _ (padB_len _ _) (by rw [sha_length]; decide), sha_length, sha_blk _ _ (padB_len _ _) hb, pad_num k hk, pad_num k hk, ipad_eq, opad_eq]
/-! ### Bytes of a digest -/
def byt (D s : Nat) : AV := .val (.int .u8 (.ofNat (Nat.mod (Nat.shiftRight D s) 256)))
def by32 (D : Nat) : List AV := [byt D 248, byt D 240, byt D 232, byt D 224, byt D 216, byt D 208, byt D 200, byt D 192, byt D 184, byt D 176, byt D 168, byt D 160, byt D 152, byt D 144, byt D 136, byt D 128, byt D 120, byt D 112, byt D 104, byt D 96, byt D 88, byt D 80, byt D 72, byt D 64, byt D 56, byt D 48, byt D 40, byt D 32, byt D 24, byt D 16, byt D 8, byt D 0]
def by16 (D : Nat) : List AV := [byt D 248, byt D 240, byt D 232, byt D 224, byt D 216, byt D 208, byt D 200, byt D 192, byt D 184, byt D 176, byt D 168, byt D 160, byt D 152, byt D 144, byt D 136, byt D 128]
abbrev avB (b : B8) : AV := .val (U8 b)
theorem byt_at (l : List B8) (b : B8) (r : List B8) {s : Nat} (h : s = 8 * r.length) : byt (num (l ++ b :: r)) s = avB b := by
  have : Nat.mod (Nat.shiftRight (num (l ++ b :: r)) s) 256 = b.toNat := by
    show num (l ++ b :: r) >>> s % 256 = _
    rw [Nat.shiftRight_eq_div_pow, h, Nat.pow_mul]; exact num_byte l b r
  unfold byt; rw [this]; rfl
theorem byts_eq : ∀ (n : Nat) (p l : List B8), l.length = n → (List.range n).map (fun i => byt (num (p ++ l)) (8 * (n - 1 - i))) = l.map avB
  | 0, p, l, h => by rw [List.length_eq_zero_iff.1 h]; rfl
  | n + 1, p, b :: l, h => by
    have h1 : l.length = n := by simpa using h
    have ih := byts_eq n (p ++ [b]) l h1
    rw [List.range_succ_eq_map, List.map_cons, List.map_cons, byt_at p b l (by rw [h1]; omega), List.map_map, ← ih]
    congr 1
    apply List.map_congr_left
    intro i hi
    rw [List.mem_range] at hi
    show byt (num (p ++ b :: l)) (8 * (n + 1 - 1 - (i + 1))) = byt (num (p ++ [b] ++ l)) (8 * (n - 1 - i))
    rw [List.append_assoc, show n + 1 - 1 - (i + 1) = n - 1 - i by omega]; rfl
theorem by32_eq (l : List B8) (h : l.length = 32) : by32 (num l) = l.map avB := by
  rw [← byts_eq 32 [] l h]; rfl
theorem by16_eq (l : List B8) (h : l.length = 32) : by16 (num l) = (l.take 16).map avB := by
  rw [List.map_take, ← by32_eq l h]; rfl
end Go.Proofs.YthgjgeapfndeeaaGreatDoor
