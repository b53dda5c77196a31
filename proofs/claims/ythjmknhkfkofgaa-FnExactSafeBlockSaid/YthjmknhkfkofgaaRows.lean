/-
  No cell of these rows narrows 'for every input' (looked for: loops, veiled, ifaces, maps, wideKeys, modest, calm, conditions, laid).
  DERIVED. THE GIVEN ROWS OF THIS SEAT. 11 by the template 'for every input the law returns true; each argument reads behind the call as it read before'; 0 by the template 'total and deterministic' (their statements: YthjmknhkfkofgaaTotals.lean).
  GIVEN WITH THE SEED: the statements are not yours to turn. If you find one false, say at which input.
  Laid BY PROGRAM, IN A SANDBOX (cutbox-rows.mjs): the forced cells as the released guide's own fill.sh prints them over the translation 890674c72c22572d… (all of the seat's roots in one cut). By AI agents, Wed Nov 11 2026. No macro, syntax, notation, axiom, sorry.
-/
import Derived.Test.YthjmknhkfkofgaaChecked
import GoSem.Claim
import GoSem.ClaimJoined
import GoSem.ClaimMapViews
import Derived.JoinedTies
import Derived.KernelRfl
namespace Go.Proofs.Ythjmknhkfkofgaa
/- THE CELL 'sum', in the pinned program and in every row, IS THE sha256 OF THE DUMP (.gsa) THAT YthjmknhkfkofgaaProg.lean LOADS. Nothing in Lean hashes anything: it is a label: what it is worth is what the hold of that sum in a sandbox is worth. -/
noncomputable def Try.pinned : Pinned := { name := "ythjmknhkfkofgaa", sum := "890674c72c22572d206b9028da6214f6b0f3bd660846df3ccae81713868c1d9b", checked := Try.checked }
namespace Rows
def none {H : Type} : Left H := { results := [], args := [] }

/-- 'laws.FnExactEventOk': WHATEVER THE INPUT: true; the input reads as it did. -/
def fnExactEventOkSpec : ChangeSpec := { name := "fnExactEventOk", fn := fun _ => fun
  | [d] => { results := [.lit (.bool true)], args := [d] }
  | _ => none }
def fnExactEventOkRow : OpenClaim := { program := "ythjmknhkfkofgaa", sum := "890674c72c22572d206b9028da6214f6b0f3bd660846df3ccae81713868c1d9b", func := "loop.example/g00330/laws.FnExactEventOk", spec := "fnExactEventOk", apart := false }
def FnExactEventOkSaid : Prop := fnExactEventOkRow.holds Try.pinned (OpenSpec.ofChange fnExactEventOkSpec)

/-- ITS FALSE NEIGHBOUR: 'it returns false'. Refute it at one input. -/
def fnExactEventOkWrong : ChangeSpec := { name := "fnExactEventOk", fn := fun _ => fun
  | [d] => { results := [.lit (.bool false)], args := [d] }
  | _ => none }
def FnExactEventOkWrongFalsely : Prop := fnExactEventOkRow.holds Try.pinned (OpenSpec.ofChange fnExactEventOkWrong)

/-- 'laws.FnExactSaidTwice': WHATEVER THE INPUT: true; the input reads as it did. -/
def fnExactSaidTwiceSpec : ChangeSpec := { name := "fnExactSaidTwice", fn := fun _ => fun
  | [d] => { results := [.lit (.bool true)], args := [d] }
  | _ => none }
def fnExactSaidTwiceRow : OpenClaim := { program := "ythjmknhkfkofgaa", sum := "890674c72c22572d206b9028da6214f6b0f3bd660846df3ccae81713868c1d9b", func := "loop.example/g00330/laws.FnExactSaidTwice", spec := "fnExactSaidTwice", unfollowed := true, recurses := true, apart := false }
def FnExactSaidTwiceSaid : Prop := fnExactSaidTwiceRow.holds Try.pinned (OpenSpec.ofChange fnExactSaidTwiceSpec)

/-- ITS FALSE NEIGHBOUR: 'it returns false'. Refute it at one input. -/
def fnExactSaidTwiceWrong : ChangeSpec := { name := "fnExactSaidTwice", fn := fun _ => fun
  | [d] => { results := [.lit (.bool false)], args := [d] }
  | _ => none }
def FnExactSaidTwiceWrongFalsely : Prop := fnExactSaidTwiceRow.holds Try.pinned (OpenSpec.ofChange fnExactSaidTwiceWrong)

/-- 'laws.FnExactSameBatches': WHATEVER THE INPUT: true; the input reads as it did. -/
def fnExactSameBatchesSpec : ChangeSpec := { name := "fnExactSameBatches", fn := fun _ => fun
  | [d1, d2] => { results := [.lit (.bool true)], args := [d1, d2] }
  | _ => none }
def fnExactSameBatchesRow : OpenClaim := { program := "ythjmknhkfkofgaa", sum := "890674c72c22572d206b9028da6214f6b0f3bd660846df3ccae81713868c1d9b", func := "loop.example/g00330/laws.FnExactSameBatches", spec := "fnExactSameBatches", unfollowed := true, recurses := true, apart := false }
def FnExactSameBatchesSaid : Prop := fnExactSameBatchesRow.holds Try.pinned (OpenSpec.ofChange fnExactSameBatchesSpec)

/-- ITS FALSE NEIGHBOUR: 'it returns false'. Refute it at one input. -/
def fnExactSameBatchesWrong : ChangeSpec := { name := "fnExactSameBatches", fn := fun _ => fun
  | [d1, d2] => { results := [.lit (.bool false)], args := [d1, d2] }
  | _ => none }
def FnExactSameBatchesWrongFalsely : Prop := fnExactSameBatchesRow.holds Try.pinned (OpenSpec.ofChange fnExactSameBatchesWrong)

/-- 'laws.FnExactSafeBlock': WHATEVER THE INPUT: true; the input reads as it did. -/
def fnExactSafeBlockSpec : ChangeSpec := { name := "fnExactSafeBlock", fn := fun _ => fun
  | [d1, d2, d3] => { results := [.lit (.bool true)], args := [d1, d2, d3] }
  | _ => none }
def fnExactSafeBlockRow : OpenClaim := { program := "ythjmknhkfkofgaa", sum := "890674c72c22572d206b9028da6214f6b0f3bd660846df3ccae81713868c1d9b", func := "loop.example/g00330/laws.FnExactSafeBlock", spec := "fnExactSafeBlock", apart := false }
def FnExactSafeBlockSaid : Prop := fnExactSafeBlockRow.holds Try.pinned (OpenSpec.ofChange fnExactSafeBlockSpec)

/-- ITS FALSE NEIGHBOUR: 'it returns false'. Refute it at one input. -/
def fnExactSafeBlockWrong : ChangeSpec := { name := "fnExactSafeBlock", fn := fun _ => fun
  | [d1, d2, d3] => { results := [.lit (.bool false)], args := [d1, d2, d3] }
  | _ => none }
def FnExactSafeBlockWrongFalsely : Prop := fnExactSafeBlockRow.holds Try.pinned (OpenSpec.ofChange fnExactSafeBlockWrong)

/-- 'laws.FnExactMayVote': WHATEVER THE INPUT: true; the input reads as it did. -/
def fnExactMayVoteSpec : ChangeSpec := { name := "fnExactMayVote", fn := fun _ => fun
  | [d1, d2, d3] => { results := [.lit (.bool true)], args := [d1, d2, d3] }
  | _ => none }
def fnExactMayVoteRow : OpenClaim := { program := "ythjmknhkfkofgaa", sum := "890674c72c22572d206b9028da6214f6b0f3bd660846df3ccae81713868c1d9b", func := "loop.example/g00330/laws.FnExactMayVote", spec := "fnExactMayVote", apart := false }
def FnExactMayVoteSaid : Prop := fnExactMayVoteRow.holds Try.pinned (OpenSpec.ofChange fnExactMayVoteSpec)

/-- ITS FALSE NEIGHBOUR: 'it returns false'. Refute it at one input. -/
def fnExactMayVoteWrong : ChangeSpec := { name := "fnExactMayVote", fn := fun _ => fun
  | [d1, d2, d3] => { results := [.lit (.bool false)], args := [d1, d2, d3] }
  | _ => none }
def FnExactMayVoteWrongFalsely : Prop := fnExactMayVoteRow.holds Try.pinned (OpenSpec.ofChange fnExactMayVoteWrong)

/-- 'laws.FnExactAnswered': WHATEVER THE INPUT: true; the input reads as it did. -/
def fnExactAnsweredSpec : ChangeSpec := { name := "fnExactAnswered", fn := fun _ => fun
  | [d1, d2, d3, d4, d5] => { results := [.lit (.bool true)], args := [d1, d2, d3, d4, d5] }
  | _ => none }
def fnExactAnsweredRow : OpenClaim := { program := "ythjmknhkfkofgaa", sum := "890674c72c22572d206b9028da6214f6b0f3bd660846df3ccae81713868c1d9b", func := "loop.example/g00330/laws.FnExactAnswered", spec := "fnExactAnswered", apart := false }
def FnExactAnsweredSaid : Prop := fnExactAnsweredRow.holds Try.pinned (OpenSpec.ofChange fnExactAnsweredSpec)

/-- ITS FALSE NEIGHBOUR: 'it returns false'. Refute it at one input. -/
def fnExactAnsweredWrong : ChangeSpec := { name := "fnExactAnswered", fn := fun _ => fun
  | [d1, d2, d3, d4, d5] => { results := [.lit (.bool false)], args := [d1, d2, d3, d4, d5] }
  | _ => none }
def FnExactAnsweredWrongFalsely : Prop := fnExactAnsweredRow.holds Try.pinned (OpenSpec.ofChange fnExactAnsweredWrong)

/-- 'laws.FnExactBestQc': WHATEVER THE INPUT: true; the input reads as it did. -/
def fnExactBestQcSpec : ChangeSpec := { name := "fnExactBestQc", fn := fun _ => fun
  | [d] => { results := [.lit (.bool true)], args := [d] }
  | _ => none }
def fnExactBestQcRow : OpenClaim := { program := "ythjmknhkfkofgaa", sum := "890674c72c22572d206b9028da6214f6b0f3bd660846df3ccae81713868c1d9b", func := "loop.example/g00330/laws.FnExactBestQc", spec := "fnExactBestQc", apart := false }
def FnExactBestQcSaid : Prop := fnExactBestQcRow.holds Try.pinned (OpenSpec.ofChange fnExactBestQcSpec)

/-- ITS FALSE NEIGHBOUR: 'it returns false'. Refute it at one input. -/
def fnExactBestQcWrong : ChangeSpec := { name := "fnExactBestQc", fn := fun _ => fun
  | [d] => { results := [.lit (.bool false)], args := [d] }
  | _ => none }
def FnExactBestQcWrongFalsely : Prop := fnExactBestQcRow.holds Try.pinned (OpenSpec.ofChange fnExactBestQcWrong)

/-- 'laws.FnExactPeerNew': WHATEVER THE INPUT: true; the input reads as it did. -/
def fnExactPeerNewSpec : ChangeSpec := { name := "fnExactPeerNew", fn := fun _ => fun
  | [d] => { results := [.lit (.bool true)], args := [d] }
  | _ => none }
def fnExactPeerNewRow : OpenClaim := { program := "ythjmknhkfkofgaa", sum := "890674c72c22572d206b9028da6214f6b0f3bd660846df3ccae81713868c1d9b", func := "loop.example/g00330/laws.FnExactPeerNew", spec := "fnExactPeerNew", apart := false }
def FnExactPeerNewSaid : Prop := fnExactPeerNewRow.holds Try.pinned (OpenSpec.ofChange fnExactPeerNewSpec)

/-- ITS FALSE NEIGHBOUR: 'it returns false'. Refute it at one input. -/
def fnExactPeerNewWrong : ChangeSpec := { name := "fnExactPeerNew", fn := fun _ => fun
  | [d] => { results := [.lit (.bool false)], args := [d] }
  | _ => none }
def FnExactPeerNewWrongFalsely : Prop := fnExactPeerNewRow.holds Try.pinned (OpenSpec.ofChange fnExactPeerNewWrong)

/-- 'laws.FnExactRowCells': WHATEVER THE INPUT: true; the input reads as it did. -/
def fnExactRowCellsSpec : ChangeSpec := { name := "fnExactRowCells", fn := fun _ => fun
  | [d1, d2] => { results := [.lit (.bool true)], args := [d1, d2] }
  | _ => none }
def fnExactRowCellsRow : OpenClaim := { program := "ythjmknhkfkofgaa", sum := "890674c72c22572d206b9028da6214f6b0f3bd660846df3ccae81713868c1d9b", func := "loop.example/g00330/laws.FnExactRowCells", spec := "fnExactRowCells", inPlace := ["slices.overlaps[loop.example/g00330/impl.Cell]"], unfollowed := true, recurses := true, apart := false }
def FnExactRowCellsSaid : Prop := fnExactRowCellsRow.holds Try.pinned (OpenSpec.ofChange fnExactRowCellsSpec)

/-- ITS FALSE NEIGHBOUR: 'it returns false'. Refute it at one input. -/
def fnExactRowCellsWrong : ChangeSpec := { name := "fnExactRowCells", fn := fun _ => fun
  | [d1, d2] => { results := [.lit (.bool false)], args := [d1, d2] }
  | _ => none }
def FnExactRowCellsWrongFalsely : Prop := fnExactRowCellsRow.holds Try.pinned (OpenSpec.ofChange fnExactRowCellsWrong)

/-- 'laws.FnExactLieVote': WHATEVER THE INPUT: true; the input reads as it did. -/
def fnExactLieVoteSpec : ChangeSpec := { name := "fnExactLieVote", fn := fun _ => fun
  | [d1, d2, d3, d4, d5] => { results := [.lit (.bool true)], args := [d1, d2, d3, d4, d5] }
  | _ => none }
def fnExactLieVoteRow : OpenClaim := { program := "ythjmknhkfkofgaa", sum := "890674c72c22572d206b9028da6214f6b0f3bd660846df3ccae81713868c1d9b", func := "loop.example/g00330/laws.FnExactLieVote", spec := "fnExactLieVote", apart := false }
def FnExactLieVoteSaid : Prop := fnExactLieVoteRow.holds Try.pinned (OpenSpec.ofChange fnExactLieVoteSpec)

/-- ITS FALSE NEIGHBOUR: 'it returns false'. Refute it at one input. -/
def fnExactLieVoteWrong : ChangeSpec := { name := "fnExactLieVote", fn := fun _ => fun
  | [d1, d2, d3, d4, d5] => { results := [.lit (.bool false)], args := [d1, d2, d3, d4, d5] }
  | _ => none }
def FnExactLieVoteWrongFalsely : Prop := fnExactLieVoteRow.holds Try.pinned (OpenSpec.ofChange fnExactLieVoteWrong)

/-- 'laws.FnExactVoted': WHATEVER THE INPUT: true; the input reads as it did. -/
def fnExactVotedSpec : ChangeSpec := { name := "fnExactVoted", fn := fun _ => fun
  | [d1, d2, d3, d4] => { results := [.lit (.bool true)], args := [d1, d2, d3, d4] }
  | _ => none }
def fnExactVotedRow : OpenClaim := { program := "ythjmknhkfkofgaa", sum := "890674c72c22572d206b9028da6214f6b0f3bd660846df3ccae81713868c1d9b", func := "loop.example/g00330/laws.FnExactVoted", spec := "fnExactVoted", apart := false }
def FnExactVotedSaid : Prop := fnExactVotedRow.holds Try.pinned (OpenSpec.ofChange fnExactVotedSpec)

/-- ITS FALSE NEIGHBOUR: 'it returns false'. Refute it at one input. -/
def fnExactVotedWrong : ChangeSpec := { name := "fnExactVoted", fn := fun _ => fun
  | [d1, d2, d3, d4] => { results := [.lit (.bool false)], args := [d1, d2, d3, d4] }
  | _ => none }
def FnExactVotedWrongFalsely : Prop := fnExactVotedRow.holds Try.pinned (OpenSpec.ofChange fnExactVotedWrong)

/- THE SECOND FORM. 'bulk': how many values and letters a reading holds, each counted each time it is reached (what is shared counts as often as it is met; a slice's spare places count too). A statement '..UptoSaid' is the law's where the arguments, and the package variables that the reading takes, are together of bulk at most 1048576: NARROWER than '..Said'. Prove '..Said' where nothing that the law and all that it calls make is longer than what came in: it says more and counts as full. Else prove '..UptoSaid'. A law counts once. -/
mutual
def uptoBulk {H : Type} : DataW H → Nat
  | .lit (.string bytes) => bytes.length + 1
  | .lit _ => 1
  | .nil => 1
  | .ptr d => uptoBulk d + 1
  | .slice elems spare => uptoBulkAll elems + uptoBulkAll spare + 1
  | .agg parts => uptoBulkAll parts + 1
  | .iface _ d => uptoBulk d + 1
  | .map entries => uptoBulkEntries entries + 1
  | .held _ => 1
def uptoBulkAll {H : Type} : List (DataW H) → Nat
  | [] => 0
  | d :: r => uptoBulk d + uptoBulkAll r
def uptoBulkEntries {H : Type} : List (Lit × DataW H) → Nat
  | [] => 0
  | x :: r => uptoBulkEntry x + uptoBulkEntries r
def uptoBulkEntry {H : Type} : Lit × DataW H → Nat
  | (.string bytes, d) => bytes.length + uptoBulk d + 1
  | (_, d) => uptoBulk d + 1
 end
def uptoSmall : (H : Type) → List (DataW H) → Bool := fun _ ds => decide (uptoBulkAll ds ≤ 1048576)
def OpenSpec.upto (s : _root_.Go.ChangeSpec) : _root_.Go.OpenSpec := { _root_.Go.OpenSpec.ofChange s with cond := some uptoSmall }

/-- 'laws.FnExactEventOk', WHERE WHAT IT READS IS OF BULK AT MOST 1048576: true; the input reads as it did. -/
def fnExactEventOkUptoRow : OpenClaim := { program := "ythjmknhkfkofgaa", sum := "890674c72c22572d206b9028da6214f6b0f3bd660846df3ccae81713868c1d9b", func := "loop.example/g00330/laws.FnExactEventOk", spec := "fnExactEventOk", apart := false, narrowed := true }
def FnExactEventOkUptoSaid : Prop := fnExactEventOkUptoRow.holds Try.pinned (OpenSpec.upto fnExactEventOkSpec)

/-- 'laws.FnExactSaidTwice', WHERE WHAT IT READS IS OF BULK AT MOST 1048576: true; the input reads as it did. -/
def fnExactSaidTwiceUptoRow : OpenClaim := { program := "ythjmknhkfkofgaa", sum := "890674c72c22572d206b9028da6214f6b0f3bd660846df3ccae81713868c1d9b", func := "loop.example/g00330/laws.FnExactSaidTwice", spec := "fnExactSaidTwice", unfollowed := true, recurses := true, apart := false, narrowed := true }
def FnExactSaidTwiceUptoSaid : Prop := fnExactSaidTwiceUptoRow.holds Try.pinned (OpenSpec.upto fnExactSaidTwiceSpec)

/-- 'laws.FnExactSameBatches', WHERE WHAT IT READS IS OF BULK AT MOST 1048576: true; the input reads as it did. -/
def fnExactSameBatchesUptoRow : OpenClaim := { program := "ythjmknhkfkofgaa", sum := "890674c72c22572d206b9028da6214f6b0f3bd660846df3ccae81713868c1d9b", func := "loop.example/g00330/laws.FnExactSameBatches", spec := "fnExactSameBatches", unfollowed := true, recurses := true, apart := false, narrowed := true }
def FnExactSameBatchesUptoSaid : Prop := fnExactSameBatchesUptoRow.holds Try.pinned (OpenSpec.upto fnExactSameBatchesSpec)

/-- 'laws.FnExactSafeBlock', WHERE WHAT IT READS IS OF BULK AT MOST 1048576: true; the input reads as it did. -/
def fnExactSafeBlockUptoRow : OpenClaim := { program := "ythjmknhkfkofgaa", sum := "890674c72c22572d206b9028da6214f6b0f3bd660846df3ccae81713868c1d9b", func := "loop.example/g00330/laws.FnExactSafeBlock", spec := "fnExactSafeBlock", apart := false, narrowed := true }
def FnExactSafeBlockUptoSaid : Prop := fnExactSafeBlockUptoRow.holds Try.pinned (OpenSpec.upto fnExactSafeBlockSpec)

/-- 'laws.FnExactMayVote', WHERE WHAT IT READS IS OF BULK AT MOST 1048576: true; the input reads as it did. -/
def fnExactMayVoteUptoRow : OpenClaim := { program := "ythjmknhkfkofgaa", sum := "890674c72c22572d206b9028da6214f6b0f3bd660846df3ccae81713868c1d9b", func := "loop.example/g00330/laws.FnExactMayVote", spec := "fnExactMayVote", apart := false, narrowed := true }
def FnExactMayVoteUptoSaid : Prop := fnExactMayVoteUptoRow.holds Try.pinned (OpenSpec.upto fnExactMayVoteSpec)

/-- 'laws.FnExactAnswered', WHERE WHAT IT READS IS OF BULK AT MOST 1048576: true; the input reads as it did. -/
def fnExactAnsweredUptoRow : OpenClaim := { program := "ythjmknhkfkofgaa", sum := "890674c72c22572d206b9028da6214f6b0f3bd660846df3ccae81713868c1d9b", func := "loop.example/g00330/laws.FnExactAnswered", spec := "fnExactAnswered", apart := false, narrowed := true }
def FnExactAnsweredUptoSaid : Prop := fnExactAnsweredUptoRow.holds Try.pinned (OpenSpec.upto fnExactAnsweredSpec)

/-- 'laws.FnExactBestQc', WHERE WHAT IT READS IS OF BULK AT MOST 1048576: true; the input reads as it did. -/
def fnExactBestQcUptoRow : OpenClaim := { program := "ythjmknhkfkofgaa", sum := "890674c72c22572d206b9028da6214f6b0f3bd660846df3ccae81713868c1d9b", func := "loop.example/g00330/laws.FnExactBestQc", spec := "fnExactBestQc", apart := false, narrowed := true }
def FnExactBestQcUptoSaid : Prop := fnExactBestQcUptoRow.holds Try.pinned (OpenSpec.upto fnExactBestQcSpec)

/-- 'laws.FnExactPeerNew', WHERE WHAT IT READS IS OF BULK AT MOST 1048576: true; the input reads as it did. -/
def fnExactPeerNewUptoRow : OpenClaim := { program := "ythjmknhkfkofgaa", sum := "890674c72c22572d206b9028da6214f6b0f3bd660846df3ccae81713868c1d9b", func := "loop.example/g00330/laws.FnExactPeerNew", spec := "fnExactPeerNew", apart := false, narrowed := true }
def FnExactPeerNewUptoSaid : Prop := fnExactPeerNewUptoRow.holds Try.pinned (OpenSpec.upto fnExactPeerNewSpec)

/-- 'laws.FnExactRowCells', WHERE WHAT IT READS IS OF BULK AT MOST 1048576: true; the input reads as it did. -/
def fnExactRowCellsUptoRow : OpenClaim := { program := "ythjmknhkfkofgaa", sum := "890674c72c22572d206b9028da6214f6b0f3bd660846df3ccae81713868c1d9b", func := "loop.example/g00330/laws.FnExactRowCells", spec := "fnExactRowCells", inPlace := ["slices.overlaps[loop.example/g00330/impl.Cell]"], unfollowed := true, recurses := true, apart := false, narrowed := true }
def FnExactRowCellsUptoSaid : Prop := fnExactRowCellsUptoRow.holds Try.pinned (OpenSpec.upto fnExactRowCellsSpec)

/-- 'laws.FnExactLieVote', WHERE WHAT IT READS IS OF BULK AT MOST 1048576: true; the input reads as it did. -/
def fnExactLieVoteUptoRow : OpenClaim := { program := "ythjmknhkfkofgaa", sum := "890674c72c22572d206b9028da6214f6b0f3bd660846df3ccae81713868c1d9b", func := "loop.example/g00330/laws.FnExactLieVote", spec := "fnExactLieVote", apart := false, narrowed := true }
def FnExactLieVoteUptoSaid : Prop := fnExactLieVoteUptoRow.holds Try.pinned (OpenSpec.upto fnExactLieVoteSpec)

/-- 'laws.FnExactVoted', WHERE WHAT IT READS IS OF BULK AT MOST 1048576: true; the input reads as it did. -/
def fnExactVotedUptoRow : OpenClaim := { program := "ythjmknhkfkofgaa", sum := "890674c72c22572d206b9028da6214f6b0f3bd660846df3ccae81713868c1d9b", func := "loop.example/g00330/laws.FnExactVoted", spec := "fnExactVoted", apart := false, narrowed := true }
def FnExactVotedUptoSaid : Prop := fnExactVotedUptoRow.holds Try.pinned (OpenSpec.upto fnExactVotedSpec)

end Rows
end Go.Proofs.Ythjmknhkfkofgaa
