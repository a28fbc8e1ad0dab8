/-
  No cell of these rows narrows 'for every input' (looked for: loops, veiled, ifaces, maps, wideKeys, modest, calm, conditions, laid).
  DERIVED. THE GIVEN ROWS OF THIS SEAT. 5 by the template 'for every input the law returns true; each argument reads behind the call as it read before'; 0 by the template 'total and deterministic' (their statements: YtbdnebedmdoehaaGreatTotals.lean).
  GIVEN WITH THE SEED: the statements are not yours to turn. If you find one false, say at which input.
  Laid BY PROGRAM, IN A SANDBOX (cutbox-rows.mjs): the forced cells as the released guide's own fill.sh prints them over the translation 2b4bd8c5f73bbe49… (all of the seat's roots in one cut). By AI agents, Wed Nov 11 2026. No macro, syntax, notation, axiom, sorry.
-/
import Derived.Test.YtbdnebedmdoehaaGreatChecked
import GoSem.Claim
import GoSem.ClaimJoined
import GoSem.ClaimMapViews
import Derived.JoinedTies
import Derived.KernelRfl
namespace Go.Proofs.YtbdnebedmdoehaaGreat
/- THE CELL 'sum', in the pinned program and in every row, IS THE sha256 OF THE DUMP (.gsa) THAT YtbdnebedmdoehaaGreatProg.lean LOADS. Nothing in Lean hashes anything: it is a label: what it is worth is what the hold of that sum in a sandbox is worth. -/
noncomputable def Tryz.pinned : Pinned := { name := "ytbdnebedmdoehaagreat", sum := "2b4bd8c5f73bbe496721d3f02a864936dd3d768111fa7dfc2048879ede75c33b", checked := Tryz.checked }
namespace Rows
def none {H : Type} : Left H := { results := [], args := [] }

/-- 'peloruslaw21.TeslaSigns': WHATEVER THE INPUT: true; the input reads as it did. -/
def teslaSignsSpec : ChangeSpec := { name := "teslaSigns", fn := fun _ => fun
  | [d1, d2, d3] => { results := [.lit (.bool true)], args := [d1, d2, d3] }
  | _ => none }
def teslaSignsRow : OpenClaim := { program := "ytbdnebedmdoehaagreat", sum := "2b4bd8c5f73bbe496721d3f02a864936dd3d768111fa7dfc2048879ede75c33b", func := "pelorus/peloruslaw21.TeslaSigns", spec := "teslaSigns", unfollowed := true, recurses := true, plainKeys := false, apart := false }
def TeslaSignsSaid : Prop := teslaSignsRow.holds Tryz.pinned (OpenSpec.ofChange teslaSignsSpec)

/-- ITS FALSE NEIGHBOUR: 'it returns false'. Refute it at one input. -/
def teslaSignsWrong : ChangeSpec := { name := "teslaSigns", fn := fun _ => fun
  | [d1, d2, d3] => { results := [.lit (.bool false)], args := [d1, d2, d3] }
  | _ => none }
def TeslaSignsWrongFalsely : Prop := teslaSignsRow.holds Tryz.pinned (OpenSpec.ofChange teslaSignsWrong)

/-- 'peloruslaw21.TeslaChain': WHATEVER THE INPUT: true; the input reads as it did. -/
def teslaChainSpec : ChangeSpec := { name := "teslaChain", fn := fun _ => fun
  | [d1, d2, d3] => { results := [.lit (.bool true)], args := [d1, d2, d3] }
  | _ => none }
def teslaChainRow : OpenClaim := { program := "ytbdnebedmdoehaagreat", sum := "2b4bd8c5f73bbe496721d3f02a864936dd3d768111fa7dfc2048879ede75c33b", func := "pelorus/peloruslaw21.TeslaChain", spec := "teslaChain", unfollowed := true, recurses := true, plainKeys := false, apart := false }
def TeslaChainSaid : Prop := teslaChainRow.holds Tryz.pinned (OpenSpec.ofChange teslaChainSpec)

/-- ITS FALSE NEIGHBOUR: 'it returns false'. Refute it at one input. -/
def teslaChainWrong : ChangeSpec := { name := "teslaChain", fn := fun _ => fun
  | [d1, d2, d3] => { results := [.lit (.bool false)], args := [d1, d2, d3] }
  | _ => none }
def TeslaChainWrongFalsely : Prop := teslaChainRow.holds Tryz.pinned (OpenSpec.ofChange teslaChainWrong)

/-- 'peloruslaw21.TeslaSafe': WHATEVER THE INPUT: true; the input reads as it did. -/
def teslaSafeSpec : ChangeSpec := { name := "teslaSafe", fn := fun _ => fun
  | [d1, d2, d3] => { results := [.lit (.bool true)], args := [d1, d2, d3] }
  | _ => none }
def teslaSafeRow : OpenClaim := { program := "ytbdnebedmdoehaagreat", sum := "2b4bd8c5f73bbe496721d3f02a864936dd3d768111fa7dfc2048879ede75c33b", func := "pelorus/peloruslaw21.TeslaSafe", spec := "teslaSafe", unfollowed := true, recurses := true, plainKeys := false, apart := false }
def TeslaSafeSaid : Prop := teslaSafeRow.holds Tryz.pinned (OpenSpec.ofChange teslaSafeSpec)

/-- ITS FALSE NEIGHBOUR: 'it returns false'. Refute it at one input. -/
def teslaSafeWrong : ChangeSpec := { name := "teslaSafe", fn := fun _ => fun
  | [d1, d2, d3] => { results := [.lit (.bool false)], args := [d1, d2, d3] }
  | _ => none }
def TeslaSafeWrongFalsely : Prop := teslaSafeRow.holds Tryz.pinned (OpenSpec.ofChange teslaSafeWrong)

/-- 'peloruslaw21.TeslaPlays': WHATEVER THE INPUT: true; the input reads as it did. -/
def teslaPlaysSpec : ChangeSpec := { name := "teslaPlays", fn := fun _ => fun
  | [d1, d2, d3] => { results := [.lit (.bool true)], args := [d1, d2, d3] }
  | _ => none }
def teslaPlaysRow : OpenClaim := { program := "ytbdnebedmdoehaagreat", sum := "2b4bd8c5f73bbe496721d3f02a864936dd3d768111fa7dfc2048879ede75c33b", func := "pelorus/peloruslaw21.TeslaPlays", spec := "teslaPlays", unfollowed := true, recurses := true, plainKeys := false, apart := false }
def TeslaPlaysSaid : Prop := teslaPlaysRow.holds Tryz.pinned (OpenSpec.ofChange teslaPlaysSpec)

/-- ITS FALSE NEIGHBOUR: 'it returns false'. Refute it at one input. -/
def teslaPlaysWrong : ChangeSpec := { name := "teslaPlays", fn := fun _ => fun
  | [d1, d2, d3] => { results := [.lit (.bool false)], args := [d1, d2, d3] }
  | _ => none }
def TeslaPlaysWrongFalsely : Prop := teslaPlaysRow.holds Tryz.pinned (OpenSpec.ofChange teslaPlaysWrong)

/-- 'peloruslaw21.TeslaVoid': WHATEVER THE INPUT: true; the input reads as it did. -/
def teslaVoidSpec : ChangeSpec := { name := "teslaVoid", fn := fun _ => fun
  | [d] => { results := [.lit (.bool true)], args := [d] }
  | _ => none }
def teslaVoidRow : OpenClaim := { program := "ytbdnebedmdoehaagreat", sum := "2b4bd8c5f73bbe496721d3f02a864936dd3d768111fa7dfc2048879ede75c33b", func := "pelorus/peloruslaw21.TeslaVoid", spec := "teslaVoid", unfollowed := true, recurses := true, plainKeys := false, apart := false }
def TeslaVoidSaid : Prop := teslaVoidRow.holds Tryz.pinned (OpenSpec.ofChange teslaVoidSpec)

/-- ITS FALSE NEIGHBOUR: 'it returns false'. Refute it at one input. -/
def teslaVoidWrong : ChangeSpec := { name := "teslaVoid", fn := fun _ => fun
  | [d] => { results := [.lit (.bool false)], args := [d] }
  | _ => none }
def TeslaVoidWrongFalsely : Prop := teslaVoidRow.holds Tryz.pinned (OpenSpec.ofChange teslaVoidWrong)

/- THE SECOND FORM. 'bulk': how many values and letters a reading holds, each counted each time it is reached (what is shared counts as often as it is met; a slice's spare places count too). A statement '..UptoSaid' is the law's where the arguments, and the package variables that the reading takes, are together of bulk at most 1048576: NARROWER than '..Said'. Prove '..Said' where nothing that the law and all that it calls make is longer than what came in: it says more and counts as full. Else prove '..UptoSaid'. A law counts once. -/
mutual
def uptoBulk {H : Type} : DataW H → Nat
  | .lit (.string bytes) => bytes.length + 1
  | .lit _ => 1
  | .nil => 1
  | .ptr d => uptoBulk d + 1
  | .slice elems spare => uptoBulkAll elems + uptoBulkAll spare + 1
  | .agg parts => uptoBulkAll parts + 1
  | .iface _ d => uptoBulk d + 1
  | .map entries => uptoBulkEntries entries + 1
  | .held _ => 1
def uptoBulkAll {H : Type} : List (DataW H) → Nat
  | [] => 0
  | d :: r => uptoBulk d + uptoBulkAll r
def uptoBulkEntries {H : Type} : List (Lit × DataW H) → Nat
  | [] => 0
  | x :: r => uptoBulkEntry x + uptoBulkEntries r
def uptoBulkEntry {H : Type} : Lit × DataW H → Nat
  | (.string bytes, d) => bytes.length + uptoBulk d + 1
  | (_, d) => uptoBulk d + 1
 end
def uptoSmall : (H : Type) → List (DataW H) → Bool := fun _ ds => decide (uptoBulkAll ds ≤ 1048576)
def OpenSpec.upto (s : _root_.Go.ChangeSpec) : _root_.Go.OpenSpec := { _root_.Go.OpenSpec.ofChange s with cond := some uptoSmall }

/-- 'peloruslaw21.TeslaSigns', WHERE WHAT IT READS IS OF BULK AT MOST 1048576: true; the input reads as it did. -/
def teslaSignsUptoRow : OpenClaim := { program := "ytbdnebedmdoehaagreat", sum := "2b4bd8c5f73bbe496721d3f02a864936dd3d768111fa7dfc2048879ede75c33b", func := "pelorus/peloruslaw21.TeslaSigns", spec := "teslaSigns", unfollowed := true, recurses := true, plainKeys := false, apart := false, narrowed := true }
def TeslaSignsUptoSaid : Prop := teslaSignsUptoRow.holds Tryz.pinned (OpenSpec.upto teslaSignsSpec)

/-- 'peloruslaw21.TeslaChain', WHERE WHAT IT READS IS OF BULK AT MOST 1048576: true; the input reads as it did. -/
def teslaChainUptoRow : OpenClaim := { program := "ytbdnebedmdoehaagreat", sum := "2b4bd8c5f73bbe496721d3f02a864936dd3d768111fa7dfc2048879ede75c33b", func := "pelorus/peloruslaw21.TeslaChain", spec := "teslaChain", unfollowed := true, recurses := true, plainKeys := false, apart := false, narrowed := true }
def TeslaChainUptoSaid : Prop := teslaChainUptoRow.holds Tryz.pinned (OpenSpec.upto teslaChainSpec)

/-- 'peloruslaw21.TeslaSafe', WHERE WHAT IT READS IS OF BULK AT MOST 1048576: true; the input reads as it did. -/
def teslaSafeUptoRow : OpenClaim := { program := "ytbdnebedmdoehaagreat", sum := "2b4bd8c5f73bbe496721d3f02a864936dd3d768111fa7dfc2048879ede75c33b", func := "pelorus/peloruslaw21.TeslaSafe", spec := "teslaSafe", unfollowed := true, recurses := true, plainKeys := false, apart := false, narrowed := true }
def TeslaSafeUptoSaid : Prop := teslaSafeUptoRow.holds Tryz.pinned (OpenSpec.upto teslaSafeSpec)

/-- 'peloruslaw21.TeslaPlays', WHERE WHAT IT READS IS OF BULK AT MOST 1048576: true; the input reads as it did. -/
def teslaPlaysUptoRow : OpenClaim := { program := "ytbdnebedmdoehaagreat", sum := "2b4bd8c5f73bbe496721d3f02a864936dd3d768111fa7dfc2048879ede75c33b", func := "pelorus/peloruslaw21.TeslaPlays", spec := "teslaPlays", unfollowed := true, recurses := true, plainKeys := false, apart := false, narrowed := true }
def TeslaPlaysUptoSaid : Prop := teslaPlaysUptoRow.holds Tryz.pinned (OpenSpec.upto teslaPlaysSpec)

/-- 'peloruslaw21.TeslaVoid', WHERE WHAT IT READS IS OF BULK AT MOST 1048576: true; the input reads as it did. -/
def teslaVoidUptoRow : OpenClaim := { program := "ytbdnebedmdoehaagreat", sum := "2b4bd8c5f73bbe496721d3f02a864936dd3d768111fa7dfc2048879ede75c33b", func := "pelorus/peloruslaw21.TeslaVoid", spec := "teslaVoid", unfollowed := true, recurses := true, plainKeys := false, apart := false, narrowed := true }
def TeslaVoidUptoSaid : Prop := teslaVoidUptoRow.holds Tryz.pinned (OpenSpec.upto teslaVoidSpec)

end Rows
end Go.Proofs.YtbdnebedmdoehaaGreat
