import Derived.Test.YtkineolcmdecjaaGreatFr0
namespace Go.Proofs.YtkineolcmdecjaaGreat
open Go.PK
structure FrO where
 f:Fr
 ob:Option Nat
 cp:Nat
abbrev FrO.sl (x:FrO):Value:=slO x.ob x.f.b.length x.cp
abbrev FrO.cells (x:FrO):List Value:=x.f.cells x.sl
abbrev frV (x:FrO):Value:= .agg x.cells.toArray
abbrev bodyO (x:FrO):It:=own x.ob x.cp 5 1 x.f.b.length (bytes x.f.b)
structure FrO.Ok (x:FrO):Prop where
 f:x.f.Ok
 b:x.f.b.length≤100000
def fr0:Fr:=⟨0,0,0,0, [],List.replicate 16 0#8⟩
theorem ones_fro (x:FrO):ones x.cells=true:=ones_fr _ rfl
theorem fill_one21 {cs zs:List Value} (h:cs.length=21) (hz:zs.length=21):fillL (fun j=> some (j*21,21)) (reps zs 1) [(0, .agg cs.toArray)]=some cs:=by
 refine fill_seg [] zs [] rfl (agg_cells _) (by simp [reps]) rfl hz h ?_
 simp [fillL]
end Go.Proofs.YtkineolcmdecjaaGreat
