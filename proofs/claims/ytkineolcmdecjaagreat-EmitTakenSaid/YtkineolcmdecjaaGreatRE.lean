import Derived.Test.YtkineolcmdecjaaGreatKRd
import Derived.Test.YtkineolcmdecjaaGreatBA
import Derived.Test.YtkineolcmdecjaaGreatUC
import Derived.Test.YtkineolcmdecjaaGreatE28
import Derived.Test.YtkineolcmdecjaaGreatRD
import Derived.Test.YtkineolcmdecjaaGreatEE
import Derived.Test.YtkineolcmdecjaaGreatRC
import Derived.Test.YtkineolcmdecjaaGreatED
namespace Go.Proofs.YtkineolcmdecjaaGreat
open Go.PK
open Tryz
set_option maxRecDepth 100000
structure Wt.Fit (x:Wt):Prop where
 mo:i64 x.mo
 sl:i64 x.sl
 gm:i64 x.gm
structure CfA where
 c:Cf
 p:Option Addr
 cap:Nat
structure CfA.Ok (x:CfA):Prop where
 f:x.c.Fit
 l:x.c.L.length≤x.cap
 b:x.c.L.length≤maxLen
abbrev CfA.sl (x:CfA):Value:= .slice x.p x.c.L.length x.cap
noncomputable def rActs33:Rdr prog 22 (Sl Act33):=rAct33.slice 61 zi zi zi zc (List.flatMap Act33.cells) (fun _=> rfl)
end Go.Proofs.YtkineolcmdecjaaGreat
namespace Go.Proofs.YtkineolcmdecjaaGreat
open Go.PK
open Tryz
theorem Lies.ownS {ob:Option Nat} {cap sz n:Nat} {e:TypeId} {xs:List Value}:Lies (own ob cap e sz n xs) (sls (ob.map fun b=> ⟨b,0,none⟩) sz n xs):=
 ⟨fun _ h=> own_sls h,fun c hc=> by by_cases hn:n=0 <;> cases ob <;> simp_all [PK.sls,PK.own]⟩
theorem act33_flat:∀a:Act33,a.cells.length=61:=fun _=> rfl
end Go.Proofs.YtkineolcmdecjaaGreat
namespace Go.Proofs.YtkineolcmdecjaaGreat
open Go.PK
open Tryz
end Go.Proofs.YtkineolcmdecjaaGreat
