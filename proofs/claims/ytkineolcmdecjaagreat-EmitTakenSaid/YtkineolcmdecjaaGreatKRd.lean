import Derived.Test.YtkineolcmdecjaaGreatKD
import Derived.Test.YtkineolcmdecjaaGreatProg
import Derived.KernelRfl
namespace Go.Proofs.YtkineolcmdecjaaGreat
open Go.PK
open Tryz
noncomputable def rU8:Rdr prog 5 B8:=Rdr.u8 zi zi
noncomputable def rInt:Rdr prog 3 Int:=Rdr.int .i64 zi zi
noncomputable def rKey:Rdr prog 31 (List B8):=rU8.array 32 1 zi zi zi (List.map U8) (flat_one U8)
noncomputable def rSmall:Rdr prog 65 Int:=Rdr.int .i32 zi zi
noncomputable def rFix:Rdr prog 25 Int:=Rdr.int .i64 zi zi
noncomputable def rU16:Rdr prog 67 Int:=Rdr.int .u16 zi zi
noncomputable def rU32:Rdr prog 61 Int:=Rdr.int .u32 zi zi
noncomputable def rU64:Rdr prog 32 Int:=Rdr.int .u64 zi zi
noncomputable def rSm3:Rdr prog 66 (List Int):=rSmall.array 3 1 zi zi zi (List.map (Value.int .i32)) (flat_one _)
noncomputable def rVec:Rdr prog 27 (List Int):=rFix.array 3 1 zi zi zi (List.map (Value.int .i64)) (flat_one _)
theorem of3 {l:List Int} (h:l.length=3):∃a b c,l= [a,b,c]:=by
 match l,h with
 | [a,b,c],_=> exact ⟨a,b,c,rfl⟩
theorem keyV_of {l:List B8} (h:l.length=32):l.map U8=keyV (fun j=> l.getD j 0):=by
 match l,h with
 | [_,_,_,_,_,_,_,_,_,_,_,_,_,_,_,_,_,_,_,_,_,_,_,_,_,_,_,_,_,_,_,_],_=> rfl
set_option maxRecDepth 100000
noncomputable def rRdg:Rdr prog 69 Rdg:=
 Rdr.struct (fs := [Field.mk "Kind" 3 0 false "" "" 0, Field.mk "Gyro" 66 1 false "" "" 8, Field.mk "Accel" 66 4 false "" "" 20, Field.mk "Height" 25 7 false "" "" 32, Field.mk "Heading" 61 8 false "" "" 40, Field.mk "Speed" 65 9 false "" "" 44, Field.mk "Steps" 61 10 false "" "" 48, Field.mk "Interval" 61 11 false "" "" 52, Field.mk "Seq" 5 12 false "" "" 56, Field.mk "Pos" 27 13 false "" "" 64, Field.mk "Key" 31 16 false "" "" 88, Field.mk "Tick" 32 48 false "" "" 120, Field.mk "Mode" 5 49 false "" "" 128, Field.mk "Epoch" 61 50 false "" "" 132, Field.mk "Bound" 25 51 false "" "" 136, Field.mk "Flags" 61 52 false "" "" 144, Field.mk "Source" 5 53 false "" "" 148, Field.mk "State" 5 54 false "" "" 149, Field.mk "Fails" 67 55 false "" "" 150, Field.mk "Counter" 32 56 false "" "" 152].toArray) (tot := 57) (α := Int × List Int × List Int × Int × Int × Int × Int × Int × B8 × List Int × List B8 × Int × B8 × Int × Int × Int × B8 × B8 × Int × Int × Unit)
  zi zi
  (.cons (k:=1) rInt rfl zi zc (.cons (k:=3) rSm3 rfl zi zc (.cons (k:=3) rSm3 rfl zi zc (.cons (k:=1) rFix rfl zi zc (.cons (k:=1) rU32 rfl zi zc (.cons (k:=1) rSmall rfl zi zc (.cons (k:=1) rU32 rfl zi zc (.cons (k:=1) rU32 rfl zi zc (.cons (k:=1) rU8 rfl zi zc (.cons (k:=3) rVec rfl zi zc (.cons (k:=32) rKey rfl zi zc (.cons (k:=1) rU64 rfl zi zc (.cons (k:=1) rU8 rfl zi zc (.cons (k:=1) rU32 rfl zi zc (.cons (k:=1) rFix rfl zi zc (.cons (k:=1) rU32 rfl zi zc (.cons (k:=1) rU8 rfl zi zc (.cons (k:=1) rU8 rfl zi zc (.cons (k:=1) rU16 rfl zi zc (.cons (k:=1) rU64 rfl zi zc .nil))))))))))))))))))))
  Rdg.cells (fun _=> []) Rdg.Ok
  (fun ⟨kd,gy,ac,he,hd,sp,st,iv,sq,po,ke,ti,mo,ep,bo,fl,so,sa,fa,co,_⟩ h=> by
   obtain ⟨h1,h2,h3,h4,h5,h6,h7,h8,h9,h10,h11,h12,h13,h14,h15,h16,h17,h18,h19,h20, -⟩:=h
   obtain ⟨h2,h2'⟩:=h2
   obtain ⟨h3,h3'⟩:=h3
   obtain ⟨h10,h10'⟩:=h10
   obtain ⟨h11,h11'⟩:=h11
   obtain ⟨g0,g1,g2,rfl⟩:=of3 h2
   obtain ⟨a0,a1,a2,rfl⟩:=of3 h3
   obtain ⟨p0,p1,p2,rfl⟩:=of3 h10
   refine ⟨⟨kd,g0,g1,g2,a0,a1,a2,he,hd,sp,st,iv,sq,p0,p1,p2,fun j=> ke.getD j 0,ti,mo,ep,bo,fl,so,sa,fa,co⟩, ?_,
    ⟨h1,h2' _ zm,h2' _ zm,h2' _ zm,h3' _ zm,h3' _ zm,h3' _ zm,h4,h5,h6,h7,h8,h10' _ zm,h10' _ zm,h10' _ zm,h12,h14,h15,h16,h19,h20⟩,zm⟩
   show _= [Value.int .i64 kd]++([Value.int .i32 g0, .int .i32 g1, .int .i32 g2]++([Value.int .i32 a0, .int .i32 a1, .int .i32 a2]++([Value.int .i64 he]++([Value.int .u32 hd]++([Value.int .i32 sp]++([Value.int .u32 st]++([Value.int .u32 iv]++([U8 sq]++([Value.int .i64 p0, .int .i64 p1, .int .i64 p2]++(ke.map U8++([Value.int .u64 ti]++([U8 mo]++([Value.int .u32 ep]++([Value.int .i64 bo]++([Value.int .u32 fl]++([U8 so]++([U8 sa]++([Value.int .u16 fa]++([Value.int .u64 co]++ [])))))))))))))))))))
   rw [keyV_of h11]
   rfl)
  (fun _ _=> rfl)
end Go.Proofs.YtkineolcmdecjaaGreat
