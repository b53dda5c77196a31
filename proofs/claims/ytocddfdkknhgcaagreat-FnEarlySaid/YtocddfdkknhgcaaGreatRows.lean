/-
  No cell of these rows narrows 'for every input' (looked for: loops, veiled, ifaces, maps, wideKeys, modest, calm, conditions, laid).
  DERIVED. THE GIVEN ROWS OF THIS SEAT. 6 by the template 'for every input the law returns true; each argument reads behind the call as it read before'; 0 by the template 'total and deterministic' (their statements: YtocddfdkknhgcaaGreatTotals.lean).
  GIVEN WITH THE SEED: the statements are not yours to turn. If you find one false, say at which input.
  Laid BY PROGRAM, IN A SANDBOX (cutbox-rows.mjs): the forced cells as the released guide's own fill.sh prints them over the translation 37bdae86fc7fc5a9… (all of the seat's roots in one cut). By AI agents, Wed Nov 11 2026. No macro, syntax, notation, axiom, sorry.
-/
import Derived.Test.YtocddfdkknhgcaaGreatChecked
import GoSem.Claim
import GoSem.ClaimJoined
import GoSem.ClaimMapViews
import Derived.JoinedTies
import Derived.KernelRfl
namespace Go.Proofs.YtocddfdkknhgcaaGreat
/- THE CELL 'sum', in the pinned program and in every row, IS THE sha256 OF THE DUMP (.gsa) THAT YtocddfdkknhgcaaGreatProg.lean LOADS. Nothing in Lean hashes anything: it is a label: what it is worth is what the hold of that sum in a sandbox is worth. -/
noncomputable def Tryz.pinned : Pinned := { name := "ytocddfdkknhgcaagreat", sum := "37bdae86fc7fc5a99c80a5ec0672a0a404cbe5ae61da03029ef0ab1a5a8405c4", checked := Tryz.checked }
namespace Rows
def none {H : Type} : Left H := { results := [], args := [] }

/-- 'laws.FnVotesOnce': WHATEVER THE INPUT: true; the input reads as it did. -/
def fnVotesOnceSpec : ChangeSpec := { name := "fnVotesOnce", fn := fun _ => fun
  | [d] => { results := [.lit (.bool true)], args := [d] }
  | _ => none }
def fnVotesOnceRow : OpenClaim := { program := "ytocddfdkknhgcaagreat", sum := "37bdae86fc7fc5a99c80a5ec0672a0a404cbe5ae61da03029ef0ab1a5a8405c4", func := "loop.example/g00330/laws.FnVotesOnce", spec := "fnVotesOnce", apart := false }
def FnVotesOnceSaid : Prop := fnVotesOnceRow.holds Tryz.pinned (OpenSpec.ofChange fnVotesOnceSpec)

/-- ITS FALSE NEIGHBOUR: 'it returns false'. Refute it at one input. -/
def fnVotesOnceWrong : ChangeSpec := { name := "fnVotesOnce", fn := fun _ => fun
  | [d] => { results := [.lit (.bool false)], args := [d] }
  | _ => none }
def FnVotesOnceWrongFalsely : Prop := fnVotesOnceRow.holds Tryz.pinned (OpenSpec.ofChange fnVotesOnceWrong)

/-- 'laws.FnPaces': WHATEVER THE INPUT: true; the input reads as it did. -/
def fnPacesSpec : ChangeSpec := { name := "fnPaces", fn := fun _ => fun
  | [d] => { results := [.lit (.bool true)], args := [d] }
  | _ => none }
def fnPacesRow : OpenClaim := { program := "ytocddfdkknhgcaagreat", sum := "37bdae86fc7fc5a99c80a5ec0672a0a404cbe5ae61da03029ef0ab1a5a8405c4", func := "loop.example/g00330/laws.FnPaces", spec := "fnPaces", apart := false }
def FnPacesSaid : Prop := fnPacesRow.holds Tryz.pinned (OpenSpec.ofChange fnPacesSpec)

/-- ITS FALSE NEIGHBOUR: 'it returns false'. Refute it at one input. -/
def fnPacesWrong : ChangeSpec := { name := "fnPaces", fn := fun _ => fun
  | [d] => { results := [.lit (.bool false)], args := [d] }
  | _ => none }
def FnPacesWrongFalsely : Prop := fnPacesRow.holds Tryz.pinned (OpenSpec.ofChange fnPacesWrong)

/-- 'laws.FnEarly': WHATEVER THE INPUT: true; the input reads as it did. -/
def fnEarlySpec : ChangeSpec := { name := "fnEarly", fn := fun _ => fun
  | [d] => { results := [.lit (.bool true)], args := [d] }
  | _ => none }
def fnEarlyRow : OpenClaim := { program := "ytocddfdkknhgcaagreat", sum := "37bdae86fc7fc5a99c80a5ec0672a0a404cbe5ae61da03029ef0ab1a5a8405c4", func := "loop.example/g00330/laws.FnEarly", spec := "fnEarly", inPlace := ["slices.overlaps[loop.example/g00330/impl.Cell]"], unfollowed := true, recurses := true, apart := false }
def FnEarlySaid : Prop := fnEarlyRow.holds Tryz.pinned (OpenSpec.ofChange fnEarlySpec)

/-- ITS FALSE NEIGHBOUR: 'it returns false'. Refute it at one input. -/
def fnEarlyWrong : ChangeSpec := { name := "fnEarly", fn := fun _ => fun
  | [d] => { results := [.lit (.bool false)], args := [d] }
  | _ => none }
def FnEarlyWrongFalsely : Prop := fnEarlyRow.holds Tryz.pinned (OpenSpec.ofChange fnEarlyWrong)

/-- 'laws.FnSafeTold': WHATEVER THE INPUT: true; the input reads as it did. -/
def fnSafeToldSpec : ChangeSpec := { name := "fnSafeTold", fn := fun _ => fun
  | [d] => { results := [.lit (.bool true)], args := [d] }
  | _ => none }
def fnSafeToldRow : OpenClaim := { program := "ytocddfdkknhgcaagreat", sum := "37bdae86fc7fc5a99c80a5ec0672a0a404cbe5ae61da03029ef0ab1a5a8405c4", func := "loop.example/g00330/laws.FnSafeTold", spec := "fnSafeTold", inPlace := ["slices.overlaps[loop.example/g00330/impl.Cell]"], unfollowed := true, recurses := true, apart := false }
def FnSafeToldSaid : Prop := fnSafeToldRow.holds Tryz.pinned (OpenSpec.ofChange fnSafeToldSpec)

/-- ITS FALSE NEIGHBOUR: 'it returns false'. Refute it at one input. -/
def fnSafeToldWrong : ChangeSpec := { name := "fnSafeTold", fn := fun _ => fun
  | [d] => { results := [.lit (.bool false)], args := [d] }
  | _ => none }
def FnSafeToldWrongFalsely : Prop := fnSafeToldRow.holds Tryz.pinned (OpenSpec.ofChange fnSafeToldWrong)

/-- 'laws.FnLearns': WHATEVER THE INPUT: true; the input reads as it did. -/
def fnLearnsSpec : ChangeSpec := { name := "fnLearns", fn := fun _ => fun
  | [d] => { results := [.lit (.bool true)], args := [d] }
  | _ => none }
def fnLearnsRow : OpenClaim := { program := "ytocddfdkknhgcaagreat", sum := "37bdae86fc7fc5a99c80a5ec0672a0a404cbe5ae61da03029ef0ab1a5a8405c4", func := "loop.example/g00330/laws.FnLearns", spec := "fnLearns", inPlace := ["slices.overlaps[loop.example/g00330/impl.Cell]"], unfollowed := true, recurses := true, apart := false }
def FnLearnsSaid : Prop := fnLearnsRow.holds Tryz.pinned (OpenSpec.ofChange fnLearnsSpec)

/-- ITS FALSE NEIGHBOUR: 'it returns false'. Refute it at one input. -/
def fnLearnsWrong : ChangeSpec := { name := "fnLearns", fn := fun _ => fun
  | [d] => { results := [.lit (.bool false)], args := [d] }
  | _ => none }
def FnLearnsWrongFalsely : Prop := fnLearnsRow.holds Tryz.pinned (OpenSpec.ofChange fnLearnsWrong)

/-- 'laws.FnWatches': WHATEVER THE INPUT: true; the input reads as it did. -/
def fnWatchesSpec : ChangeSpec := { name := "fnWatches", fn := fun _ => fun
  | [d] => { results := [.lit (.bool true)], args := [d] }
  | _ => none }
def fnWatchesRow : OpenClaim := { program := "ytocddfdkknhgcaagreat", sum := "37bdae86fc7fc5a99c80a5ec0672a0a404cbe5ae61da03029ef0ab1a5a8405c4", func := "loop.example/g00330/laws.FnWatches", spec := "fnWatches", inPlace := ["slices.overlaps[loop.example/g00330/impl.Cell]"], unfollowed := true, recurses := true, apart := false }
def FnWatchesSaid : Prop := fnWatchesRow.holds Tryz.pinned (OpenSpec.ofChange fnWatchesSpec)

/-- ITS FALSE NEIGHBOUR: 'it returns false'. Refute it at one input. -/
def fnWatchesWrong : ChangeSpec := { name := "fnWatches", fn := fun _ => fun
  | [d] => { results := [.lit (.bool false)], args := [d] }
  | _ => none }
def FnWatchesWrongFalsely : Prop := fnWatchesRow.holds Tryz.pinned (OpenSpec.ofChange fnWatchesWrong)

/- THE SECOND FORM. 'bulk': how many values and letters a reading holds, each counted each time it is reached (what is shared counts as often as it is met; a slice's spare places count too). A statement '..UptoSaid' is the law's where the arguments, and the package variables that the reading takes, are together of bulk at most 1048576: NARROWER than '..Said'. Prove '..Said' where nothing that the law and all that it calls make is longer than what came in: it says more and counts as full. Else prove '..UptoSaid'. A law counts once. -/
mutual
def uptoBulk {H : Type} : DataW H → Nat
  | .lit (.string bytes) => bytes.length + 1
  | .lit _ => 1
  | .nil => 1
  | .ptr d => uptoBulk d + 1
  | .slice elems spare => uptoBulkAll elems + uptoBulkAll spare + 1
  | .agg parts => uptoBulkAll parts + 1
  | .iface _ d => uptoBulk d + 1
  | .map entries => uptoBulkEntries entries + 1
  | .held _ => 1
def uptoBulkAll {H : Type} : List (DataW H) → Nat
  | [] => 0
  | d :: r => uptoBulk d + uptoBulkAll r
def uptoBulkEntries {H : Type} : List (Lit × DataW H) → Nat
  | [] => 0
  | x :: r => uptoBulkEntry x + uptoBulkEntries r
def uptoBulkEntry {H : Type} : Lit × DataW H → Nat
  | (.string bytes, d) => bytes.length + uptoBulk d + 1
  | (_, d) => uptoBulk d + 1
 end
def uptoSmall : (H : Type) → List (DataW H) → Bool := fun _ ds => decide (uptoBulkAll ds ≤ 1048576)
def OpenSpec.upto (s : _root_.Go.ChangeSpec) : _root_.Go.OpenSpec := { _root_.Go.OpenSpec.ofChange s with cond := some uptoSmall }

/-- 'laws.FnVotesOnce', WHERE WHAT IT READS IS OF BULK AT MOST 1048576: true; the input reads as it did. -/
def fnVotesOnceUptoRow : OpenClaim := { program := "ytocddfdkknhgcaagreat", sum := "37bdae86fc7fc5a99c80a5ec0672a0a404cbe5ae61da03029ef0ab1a5a8405c4", func := "loop.example/g00330/laws.FnVotesOnce", spec := "fnVotesOnce", apart := false, narrowed := true }
def FnVotesOnceUptoSaid : Prop := fnVotesOnceUptoRow.holds Tryz.pinned (OpenSpec.upto fnVotesOnceSpec)

/-- 'laws.FnPaces', WHERE WHAT IT READS IS OF BULK AT MOST 1048576: true; the input reads as it did. -/
def fnPacesUptoRow : OpenClaim := { program := "ytocddfdkknhgcaagreat", sum := "37bdae86fc7fc5a99c80a5ec0672a0a404cbe5ae61da03029ef0ab1a5a8405c4", func := "loop.example/g00330/laws.FnPaces", spec := "fnPaces", apart := false, narrowed := true }
def FnPacesUptoSaid : Prop := fnPacesUptoRow.holds Tryz.pinned (OpenSpec.upto fnPacesSpec)

/-- 'laws.FnEarly', WHERE WHAT IT READS IS OF BULK AT MOST 1048576: true; the input reads as it did. -/
def fnEarlyUptoRow : OpenClaim := { program := "ytocddfdkknhgcaagreat", sum := "37bdae86fc7fc5a99c80a5ec0672a0a404cbe5ae61da03029ef0ab1a5a8405c4", func := "loop.example/g00330/laws.FnEarly", spec := "fnEarly", inPlace := ["slices.overlaps[loop.example/g00330/impl.Cell]"], unfollowed := true, recurses := true, apart := false, narrowed := true }
def FnEarlyUptoSaid : Prop := fnEarlyUptoRow.holds Tryz.pinned (OpenSpec.upto fnEarlySpec)

/-- 'laws.FnSafeTold', WHERE WHAT IT READS IS OF BULK AT MOST 1048576: true; the input reads as it did. -/
def fnSafeToldUptoRow : OpenClaim := { program := "ytocddfdkknhgcaagreat", sum := "37bdae86fc7fc5a99c80a5ec0672a0a404cbe5ae61da03029ef0ab1a5a8405c4", func := "loop.example/g00330/laws.FnSafeTold", spec := "fnSafeTold", inPlace := ["slices.overlaps[loop.example/g00330/impl.Cell]"], unfollowed := true, recurses := true, apart := false, narrowed := true }
def FnSafeToldUptoSaid : Prop := fnSafeToldUptoRow.holds Tryz.pinned (OpenSpec.upto fnSafeToldSpec)

/-- 'laws.FnLearns', WHERE WHAT IT READS IS OF BULK AT MOST 1048576: true; the input reads as it did. -/
def fnLearnsUptoRow : OpenClaim := { program := "ytocddfdkknhgcaagreat", sum := "37bdae86fc7fc5a99c80a5ec0672a0a404cbe5ae61da03029ef0ab1a5a8405c4", func := "loop.example/g00330/laws.FnLearns", spec := "fnLearns", inPlace := ["slices.overlaps[loop.example/g00330/impl.Cell]"], unfollowed := true, recurses := true, apart := false, narrowed := true }
def FnLearnsUptoSaid : Prop := fnLearnsUptoRow.holds Tryz.pinned (OpenSpec.upto fnLearnsSpec)

/-- 'laws.FnWatches', WHERE WHAT IT READS IS OF BULK AT MOST 1048576: true; the input reads as it did. -/
def fnWatchesUptoRow : OpenClaim := { program := "ytocddfdkknhgcaagreat", sum := "37bdae86fc7fc5a99c80a5ec0672a0a404cbe5ae61da03029ef0ab1a5a8405c4", func := "loop.example/g00330/laws.FnWatches", spec := "fnWatches", inPlace := ["slices.overlaps[loop.example/g00330/impl.Cell]"], unfollowed := true, recurses := true, apart := false, narrowed := true }
def FnWatchesUptoSaid : Prop := fnWatchesUptoRow.holds Tryz.pinned (OpenSpec.upto fnWatchesSpec)

end Rows
end Go.Proofs.YtocddfdkknhgcaaGreat
