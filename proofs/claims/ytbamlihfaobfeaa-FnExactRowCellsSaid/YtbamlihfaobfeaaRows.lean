/-
  No cell of these rows narrows 'for every input' (looked for: loops, veiled, ifaces, maps, wideKeys, modest, calm, conditions, laid).
  DERIVED. THE GIVEN ROWS OF THIS SEAT. 13 by the template 'for every input the law returns true; each argument reads behind the call as it read before'; 0 by the template 'total and deterministic' (their statements: YtbamlihfaobfeaaTotals.lean).
  GIVEN WITH THE SEED: the statements are not yours to turn. If you find one false, say at which input.
  Laid BY PROGRAM, IN A SANDBOX (cutbox-rows.mjs): the forced cells as the released guide's own fill.sh prints them over the translation d8da276caa2baf37… (all of the seat's roots in one cut). By AI agents, Wed Nov 11 2026. No macro, syntax, notation, axiom, sorry.
-/
import Derived.Test.YtbamlihfaobfeaaChecked
import GoSem.Claim
import GoSem.ClaimJoined
import GoSem.ClaimMapViews
import Derived.JoinedTies
import Derived.KernelRfl
namespace Go.Proofs.Ytbamlihfaobfeaa
/- THE CELL 'sum', in the pinned program and in every row, IS THE sha256 OF THE DUMP (.gsa) THAT YtbamlihfaobfeaaProg.lean LOADS. Nothing in Lean hashes anything: it is a label: what it is worth is what the hold of that sum in a sandbox is worth. -/
noncomputable def Try.pinned : Pinned := { name := "ytbamlihfaobfeaa", sum := "d8da276caa2baf377c2f2ff6be1f59d01158d02eed524773a84661f650f17842", checked := Try.checked }
namespace Rows
def none {H : Type} : Left H := { results := [], args := [] }

/-- 'laws.FnExactPeerNew': WHATEVER THE INPUT: true; the input reads as it did. -/
def fnExactPeerNewSpec : ChangeSpec := { name := "fnExactPeerNew", fn := fun _ => fun
  | [d] => { results := [.lit (.bool true)], args := [d] }
  | _ => none }
def fnExactPeerNewRow : OpenClaim := { program := "ytbamlihfaobfeaa", sum := "d8da276caa2baf377c2f2ff6be1f59d01158d02eed524773a84661f650f17842", func := "loop.example/g00330/laws.FnExactPeerNew", spec := "fnExactPeerNew", apart := false }
def FnExactPeerNewSaid : Prop := fnExactPeerNewRow.holds Try.pinned (OpenSpec.ofChange fnExactPeerNewSpec)

/-- ITS FALSE NEIGHBOUR: 'it returns false'. Refute it at one input. -/
def fnExactPeerNewWrong : ChangeSpec := { name := "fnExactPeerNew", fn := fun _ => fun
  | [d] => { results := [.lit (.bool false)], args := [d] }
  | _ => none }
def FnExactPeerNewWrongFalsely : Prop := fnExactPeerNewRow.holds Try.pinned (OpenSpec.ofChange fnExactPeerNewWrong)

/-- 'laws.FnExactVoted': WHATEVER THE INPUT: true; the input reads as it did. -/
def fnExactVotedSpec : ChangeSpec := { name := "fnExactVoted", fn := fun _ => fun
  | [d1, d2, d3, d4] => { results := [.lit (.bool true)], args := [d1, d2, d3, d4] }
  | _ => none }
def fnExactVotedRow : OpenClaim := { program := "ytbamlihfaobfeaa", sum := "d8da276caa2baf377c2f2ff6be1f59d01158d02eed524773a84661f650f17842", func := "loop.example/g00330/laws.FnExactVoted", spec := "fnExactVoted", apart := false }
def FnExactVotedSaid : Prop := fnExactVotedRow.holds Try.pinned (OpenSpec.ofChange fnExactVotedSpec)

/-- ITS FALSE NEIGHBOUR: 'it returns false'. Refute it at one input. -/
def fnExactVotedWrong : ChangeSpec := { name := "fnExactVoted", fn := fun _ => fun
  | [d1, d2, d3, d4] => { results := [.lit (.bool false)], args := [d1, d2, d3, d4] }
  | _ => none }
def FnExactVotedWrongFalsely : Prop := fnExactVotedRow.holds Try.pinned (OpenSpec.ofChange fnExactVotedWrong)

/-- 'laws.FnExactEntered': WHATEVER THE INPUT: true; the input reads as it did. -/
def fnExactEnteredSpec : ChangeSpec := { name := "fnExactEntered", fn := fun _ => fun
  | [d1, d2] => { results := [.lit (.bool true)], args := [d1, d2] }
  | _ => none }
def fnExactEnteredRow : OpenClaim := { program := "ytbamlihfaobfeaa", sum := "d8da276caa2baf377c2f2ff6be1f59d01158d02eed524773a84661f650f17842", func := "loop.example/g00330/laws.FnExactEntered", spec := "fnExactEntered", apart := false }
def FnExactEnteredSaid : Prop := fnExactEnteredRow.holds Try.pinned (OpenSpec.ofChange fnExactEnteredSpec)

/-- ITS FALSE NEIGHBOUR: 'it returns false'. Refute it at one input. -/
def fnExactEnteredWrong : ChangeSpec := { name := "fnExactEntered", fn := fun _ => fun
  | [d1, d2] => { results := [.lit (.bool false)], args := [d1, d2] }
  | _ => none }
def FnExactEnteredWrongFalsely : Prop := fnExactEnteredRow.holds Try.pinned (OpenSpec.ofChange fnExactEnteredWrong)

/-- 'laws.FnExactTimedOut': WHATEVER THE INPUT: true; the input reads as it did. -/
def fnExactTimedOutSpec : ChangeSpec := { name := "fnExactTimedOut", fn := fun _ => fun
  | [d1, d2] => { results := [.lit (.bool true)], args := [d1, d2] }
  | _ => none }
def fnExactTimedOutRow : OpenClaim := { program := "ytbamlihfaobfeaa", sum := "d8da276caa2baf377c2f2ff6be1f59d01158d02eed524773a84661f650f17842", func := "loop.example/g00330/laws.FnExactTimedOut", spec := "fnExactTimedOut", apart := false }
def FnExactTimedOutSaid : Prop := fnExactTimedOutRow.holds Try.pinned (OpenSpec.ofChange fnExactTimedOutSpec)

/-- ITS FALSE NEIGHBOUR: 'it returns false'. Refute it at one input. -/
def fnExactTimedOutWrong : ChangeSpec := { name := "fnExactTimedOut", fn := fun _ => fun
  | [d1, d2] => { results := [.lit (.bool false)], args := [d1, d2] }
  | _ => none }
def FnExactTimedOutWrongFalsely : Prop := fnExactTimedOutRow.holds Try.pinned (OpenSpec.ofChange fnExactTimedOutWrong)

/-- 'laws.FnExactSaidOnce': WHATEVER THE INPUT: true; the input reads as it did. -/
def fnExactSaidOnceSpec : ChangeSpec := { name := "fnExactSaidOnce", fn := fun _ => fun
  | [d] => { results := [.lit (.bool true)], args := [d] }
  | _ => none }
def fnExactSaidOnceRow : OpenClaim := { program := "ytbamlihfaobfeaa", sum := "d8da276caa2baf377c2f2ff6be1f59d01158d02eed524773a84661f650f17842", func := "loop.example/g00330/laws.FnExactSaidOnce", spec := "fnExactSaidOnce", unfollowed := true, recurses := true, apart := false }
def FnExactSaidOnceSaid : Prop := fnExactSaidOnceRow.holds Try.pinned (OpenSpec.ofChange fnExactSaidOnceSpec)

/-- ITS FALSE NEIGHBOUR: 'it returns false'. Refute it at one input. -/
def fnExactSaidOnceWrong : ChangeSpec := { name := "fnExactSaidOnce", fn := fun _ => fun
  | [d] => { results := [.lit (.bool false)], args := [d] }
  | _ => none }
def FnExactSaidOnceWrongFalsely : Prop := fnExactSaidOnceRow.holds Try.pinned (OpenSpec.ofChange fnExactSaidOnceWrong)

/-- 'laws.FnExactOffer': WHATEVER THE INPUT: true; the input reads as it did. -/
def fnExactOfferSpec : ChangeSpec := { name := "fnExactOffer", fn := fun _ => fun
  | [d1, d2] => { results := [.lit (.bool true)], args := [d1, d2] }
  | _ => none }
def fnExactOfferRow : OpenClaim := { program := "ytbamlihfaobfeaa", sum := "d8da276caa2baf377c2f2ff6be1f59d01158d02eed524773a84661f650f17842", func := "loop.example/g00330/laws.FnExactOffer", spec := "fnExactOffer", apart := false }
def FnExactOfferSaid : Prop := fnExactOfferRow.holds Try.pinned (OpenSpec.ofChange fnExactOfferSpec)

/-- ITS FALSE NEIGHBOUR: 'it returns false'. Refute it at one input. -/
def fnExactOfferWrong : ChangeSpec := { name := "fnExactOffer", fn := fun _ => fun
  | [d1, d2] => { results := [.lit (.bool false)], args := [d1, d2] }
  | _ => none }
def FnExactOfferWrongFalsely : Prop := fnExactOfferRow.holds Try.pinned (OpenSpec.ofChange fnExactOfferWrong)

/-- 'laws.FnExactPost': WHATEVER THE INPUT: true; the input reads as it did. -/
def fnExactPostSpec : ChangeSpec := { name := "fnExactPost", fn := fun _ => fun
  | [d1, d2] => { results := [.lit (.bool true)], args := [d1, d2] }
  | _ => none }
def fnExactPostRow : OpenClaim := { program := "ytbamlihfaobfeaa", sum := "d8da276caa2baf377c2f2ff6be1f59d01158d02eed524773a84661f650f17842", func := "loop.example/g00330/laws.FnExactPost", spec := "fnExactPost", apart := false }
def FnExactPostSaid : Prop := fnExactPostRow.holds Try.pinned (OpenSpec.ofChange fnExactPostSpec)

/-- ITS FALSE NEIGHBOUR: 'it returns false'. Refute it at one input. -/
def fnExactPostWrong : ChangeSpec := { name := "fnExactPost", fn := fun _ => fun
  | [d1, d2] => { results := [.lit (.bool false)], args := [d1, d2] }
  | _ => none }
def FnExactPostWrongFalsely : Prop := fnExactPostRow.holds Try.pinned (OpenSpec.ofChange fnExactPostWrong)

/-- 'laws.FnExactLoseAt': WHATEVER THE INPUT: true; the input reads as it did. -/
def fnExactLoseAtSpec : ChangeSpec := { name := "fnExactLoseAt", fn := fun _ => fun
  | [d1, d2] => { results := [.lit (.bool true)], args := [d1, d2] }
  | _ => none }
def fnExactLoseAtRow : OpenClaim := { program := "ytbamlihfaobfeaa", sum := "d8da276caa2baf377c2f2ff6be1f59d01158d02eed524773a84661f650f17842", func := "loop.example/g00330/laws.FnExactLoseAt", spec := "fnExactLoseAt", apart := false }
def FnExactLoseAtSaid : Prop := fnExactLoseAtRow.holds Try.pinned (OpenSpec.ofChange fnExactLoseAtSpec)

/-- ITS FALSE NEIGHBOUR: 'it returns false'. Refute it at one input. -/
def fnExactLoseAtWrong : ChangeSpec := { name := "fnExactLoseAt", fn := fun _ => fun
  | [d1, d2] => { results := [.lit (.bool false)], args := [d1, d2] }
  | _ => none }
def FnExactLoseAtWrongFalsely : Prop := fnExactLoseAtRow.holds Try.pinned (OpenSpec.ofChange fnExactLoseAtWrong)

/-- 'laws.FnExactTwiceAt': WHATEVER THE INPUT: true; the input reads as it did. -/
def fnExactTwiceAtSpec : ChangeSpec := { name := "fnExactTwiceAt", fn := fun _ => fun
  | [d1, d2] => { results := [.lit (.bool true)], args := [d1, d2] }
  | _ => none }
def fnExactTwiceAtRow : OpenClaim := { program := "ytbamlihfaobfeaa", sum := "d8da276caa2baf377c2f2ff6be1f59d01158d02eed524773a84661f650f17842", func := "loop.example/g00330/laws.FnExactTwiceAt", spec := "fnExactTwiceAt", apart := false }
def FnExactTwiceAtSaid : Prop := fnExactTwiceAtRow.holds Try.pinned (OpenSpec.ofChange fnExactTwiceAtSpec)

/-- ITS FALSE NEIGHBOUR: 'it returns false'. Refute it at one input. -/
def fnExactTwiceAtWrong : ChangeSpec := { name := "fnExactTwiceAt", fn := fun _ => fun
  | [d1, d2] => { results := [.lit (.bool false)], args := [d1, d2] }
  | _ => none }
def FnExactTwiceAtWrongFalsely : Prop := fnExactTwiceAtRow.holds Try.pinned (OpenSpec.ofChange fnExactTwiceAtWrong)

/-- 'laws.FnExactWaitOut': WHATEVER THE INPUT: true; the input reads as it did. -/
def fnExactWaitOutSpec : ChangeSpec := { name := "fnExactWaitOut", fn := fun _ => fun
  | [d1, d2] => { results := [.lit (.bool true)], args := [d1, d2] }
  | _ => none }
def fnExactWaitOutRow : OpenClaim := { program := "ytbamlihfaobfeaa", sum := "d8da276caa2baf377c2f2ff6be1f59d01158d02eed524773a84661f650f17842", func := "loop.example/g00330/laws.FnExactWaitOut", spec := "fnExactWaitOut", apart := false }
def FnExactWaitOutSaid : Prop := fnExactWaitOutRow.holds Try.pinned (OpenSpec.ofChange fnExactWaitOutSpec)

/-- ITS FALSE NEIGHBOUR: 'it returns false'. Refute it at one input. -/
def fnExactWaitOutWrong : ChangeSpec := { name := "fnExactWaitOut", fn := fun _ => fun
  | [d1, d2] => { results := [.lit (.bool false)], args := [d1, d2] }
  | _ => none }
def FnExactWaitOutWrongFalsely : Prop := fnExactWaitOutRow.holds Try.pinned (OpenSpec.ofChange fnExactWaitOutWrong)

/-- 'laws.FnExactClusterNew': WHATEVER THE INPUT: true; the input reads as it did. -/
def fnExactClusterNewSpec : ChangeSpec := { name := "fnExactClusterNew", fn := fun _ => fun
  | [d1, d2, d3] => { results := [.lit (.bool true)], args := [d1, d2, d3] }
  | _ => none }
def fnExactClusterNewRow : OpenClaim := { program := "ytbamlihfaobfeaa", sum := "d8da276caa2baf377c2f2ff6be1f59d01158d02eed524773a84661f650f17842", func := "loop.example/g00330/laws.FnExactClusterNew", spec := "fnExactClusterNew", apart := false }
def FnExactClusterNewSaid : Prop := fnExactClusterNewRow.holds Try.pinned (OpenSpec.ofChange fnExactClusterNewSpec)

/-- ITS FALSE NEIGHBOUR: 'it returns false'. Refute it at one input. -/
def fnExactClusterNewWrong : ChangeSpec := { name := "fnExactClusterNew", fn := fun _ => fun
  | [d1, d2, d3] => { results := [.lit (.bool false)], args := [d1, d2, d3] }
  | _ => none }
def FnExactClusterNewWrongFalsely : Prop := fnExactClusterNewRow.holds Try.pinned (OpenSpec.ofChange fnExactClusterNewWrong)

/-- 'laws.FnExactRowCells': WHATEVER THE INPUT: true; the input reads as it did. -/
def fnExactRowCellsSpec : ChangeSpec := { name := "fnExactRowCells", fn := fun _ => fun
  | [d1, d2] => { results := [.lit (.bool true)], args := [d1, d2] }
  | _ => none }
def fnExactRowCellsRow : OpenClaim := { program := "ytbamlihfaobfeaa", sum := "d8da276caa2baf377c2f2ff6be1f59d01158d02eed524773a84661f650f17842", func := "loop.example/g00330/laws.FnExactRowCells", spec := "fnExactRowCells", inPlace := ["slices.overlaps[loop.example/g00330/impl.Cell]"], unfollowed := true, recurses := true, apart := false }
def FnExactRowCellsSaid : Prop := fnExactRowCellsRow.holds Try.pinned (OpenSpec.ofChange fnExactRowCellsSpec)

/-- ITS FALSE NEIGHBOUR: 'it returns false'. Refute it at one input. -/
def fnExactRowCellsWrong : ChangeSpec := { name := "fnExactRowCells", fn := fun _ => fun
  | [d1, d2] => { results := [.lit (.bool false)], args := [d1, d2] }
  | _ => none }
def FnExactRowCellsWrongFalsely : Prop := fnExactRowCellsRow.holds Try.pinned (OpenSpec.ofChange fnExactRowCellsWrong)

/-- 'laws.FnExactShows': WHATEVER THE INPUT: true; the input reads as it did. -/
def fnExactShowsSpec : ChangeSpec := { name := "fnExactShows", fn := fun _ => fun
  | [d1, d2, d3] => { results := [.lit (.bool true)], args := [d1, d2, d3] }
  | _ => none }
def fnExactShowsRow : OpenClaim := { program := "ytbamlihfaobfeaa", sum := "d8da276caa2baf377c2f2ff6be1f59d01158d02eed524773a84661f650f17842", func := "loop.example/g00330/laws.FnExactShows", spec := "fnExactShows", unfollowed := true, recurses := true, apart := false }
def FnExactShowsSaid : Prop := fnExactShowsRow.holds Try.pinned (OpenSpec.ofChange fnExactShowsSpec)

/-- ITS FALSE NEIGHBOUR: 'it returns false'. Refute it at one input. -/
def fnExactShowsWrong : ChangeSpec := { name := "fnExactShows", fn := fun _ => fun
  | [d1, d2, d3] => { results := [.lit (.bool false)], args := [d1, d2, d3] }
  | _ => none }
def FnExactShowsWrongFalsely : Prop := fnExactShowsRow.holds Try.pinned (OpenSpec.ofChange fnExactShowsWrong)

/- THE SECOND FORM. 'bulk': how many values and letters a reading holds, each counted each time it is reached (what is shared counts as often as it is met; a slice's spare places count too). A statement '..UptoSaid' is the law's where the arguments, and the package variables that the reading takes, are together of bulk at most 1048576: NARROWER than '..Said'. Prove '..Said' where nothing that the law and all that it calls make is longer than what came in: it says more and counts as full. Else prove '..UptoSaid'. A law counts once. -/
mutual
def uptoBulk {H : Type} : DataW H → Nat
  | .lit (.string bytes) => bytes.length + 1
  | .lit _ => 1
  | .nil => 1
  | .ptr d => uptoBulk d + 1
  | .slice elems spare => uptoBulkAll elems + uptoBulkAll spare + 1
  | .agg parts => uptoBulkAll parts + 1
  | .iface _ d => uptoBulk d + 1
  | .map entries => uptoBulkEntries entries + 1
  | .held _ => 1
def uptoBulkAll {H : Type} : List (DataW H) → Nat
  | [] => 0
  | d :: r => uptoBulk d + uptoBulkAll r
def uptoBulkEntries {H : Type} : List (Lit × DataW H) → Nat
  | [] => 0
  | x :: r => uptoBulkEntry x + uptoBulkEntries r
def uptoBulkEntry {H : Type} : Lit × DataW H → Nat
  | (.string bytes, d) => bytes.length + uptoBulk d + 1
  | (_, d) => uptoBulk d + 1
 end
def uptoSmall : (H : Type) → List (DataW H) → Bool := fun _ ds => decide (uptoBulkAll ds ≤ 1048576)
def OpenSpec.upto (s : _root_.Go.ChangeSpec) : _root_.Go.OpenSpec := { _root_.Go.OpenSpec.ofChange s with cond := some uptoSmall }

/-- 'laws.FnExactPeerNew', WHERE WHAT IT READS IS OF BULK AT MOST 1048576: true; the input reads as it did. -/
def fnExactPeerNewUptoRow : OpenClaim := { program := "ytbamlihfaobfeaa", sum := "d8da276caa2baf377c2f2ff6be1f59d01158d02eed524773a84661f650f17842", func := "loop.example/g00330/laws.FnExactPeerNew", spec := "fnExactPeerNew", apart := false, narrowed := true }
def FnExactPeerNewUptoSaid : Prop := fnExactPeerNewUptoRow.holds Try.pinned (OpenSpec.upto fnExactPeerNewSpec)

/-- 'laws.FnExactVoted', WHERE WHAT IT READS IS OF BULK AT MOST 1048576: true; the input reads as it did. -/
def fnExactVotedUptoRow : OpenClaim := { program := "ytbamlihfaobfeaa", sum := "d8da276caa2baf377c2f2ff6be1f59d01158d02eed524773a84661f650f17842", func := "loop.example/g00330/laws.FnExactVoted", spec := "fnExactVoted", apart := false, narrowed := true }
def FnExactVotedUptoSaid : Prop := fnExactVotedUptoRow.holds Try.pinned (OpenSpec.upto fnExactVotedSpec)

/-- 'laws.FnExactEntered', WHERE WHAT IT READS IS OF BULK AT MOST 1048576: true; the input reads as it did. -/
def fnExactEnteredUptoRow : OpenClaim := { program := "ytbamlihfaobfeaa", sum := "d8da276caa2baf377c2f2ff6be1f59d01158d02eed524773a84661f650f17842", func := "loop.example/g00330/laws.FnExactEntered", spec := "fnExactEntered", apart := false, narrowed := true }
def FnExactEnteredUptoSaid : Prop := fnExactEnteredUptoRow.holds Try.pinned (OpenSpec.upto fnExactEnteredSpec)

/-- 'laws.FnExactTimedOut', WHERE WHAT IT READS IS OF BULK AT MOST 1048576: true; the input reads as it did. -/
def fnExactTimedOutUptoRow : OpenClaim := { program := "ytbamlihfaobfeaa", sum := "d8da276caa2baf377c2f2ff6be1f59d01158d02eed524773a84661f650f17842", func := "loop.example/g00330/laws.FnExactTimedOut", spec := "fnExactTimedOut", apart := false, narrowed := true }
def FnExactTimedOutUptoSaid : Prop := fnExactTimedOutUptoRow.holds Try.pinned (OpenSpec.upto fnExactTimedOutSpec)

/-- 'laws.FnExactSaidOnce', WHERE WHAT IT READS IS OF BULK AT MOST 1048576: true; the input reads as it did. -/
def fnExactSaidOnceUptoRow : OpenClaim := { program := "ytbamlihfaobfeaa", sum := "d8da276caa2baf377c2f2ff6be1f59d01158d02eed524773a84661f650f17842", func := "loop.example/g00330/laws.FnExactSaidOnce", spec := "fnExactSaidOnce", unfollowed := true, recurses := true, apart := false, narrowed := true }
def FnExactSaidOnceUptoSaid : Prop := fnExactSaidOnceUptoRow.holds Try.pinned (OpenSpec.upto fnExactSaidOnceSpec)

/-- 'laws.FnExactOffer', WHERE WHAT IT READS IS OF BULK AT MOST 1048576: true; the input reads as it did. -/
def fnExactOfferUptoRow : OpenClaim := { program := "ytbamlihfaobfeaa", sum := "d8da276caa2baf377c2f2ff6be1f59d01158d02eed524773a84661f650f17842", func := "loop.example/g00330/laws.FnExactOffer", spec := "fnExactOffer", apart := false, narrowed := true }
def FnExactOfferUptoSaid : Prop := fnExactOfferUptoRow.holds Try.pinned (OpenSpec.upto fnExactOfferSpec)

/-- 'laws.FnExactPost', WHERE WHAT IT READS IS OF BULK AT MOST 1048576: true; the input reads as it did. -/
def fnExactPostUptoRow : OpenClaim := { program := "ytbamlihfaobfeaa", sum := "d8da276caa2baf377c2f2ff6be1f59d01158d02eed524773a84661f650f17842", func := "loop.example/g00330/laws.FnExactPost", spec := "fnExactPost", apart := false, narrowed := true }
def FnExactPostUptoSaid : Prop := fnExactPostUptoRow.holds Try.pinned (OpenSpec.upto fnExactPostSpec)

/-- 'laws.FnExactLoseAt', WHERE WHAT IT READS IS OF BULK AT MOST 1048576: true; the input reads as it did. -/
def fnExactLoseAtUptoRow : OpenClaim := { program := "ytbamlihfaobfeaa", sum := "d8da276caa2baf377c2f2ff6be1f59d01158d02eed524773a84661f650f17842", func := "loop.example/g00330/laws.FnExactLoseAt", spec := "fnExactLoseAt", apart := false, narrowed := true }
def FnExactLoseAtUptoSaid : Prop := fnExactLoseAtUptoRow.holds Try.pinned (OpenSpec.upto fnExactLoseAtSpec)

/-- 'laws.FnExactTwiceAt', WHERE WHAT IT READS IS OF BULK AT MOST 1048576: true; the input reads as it did. -/
def fnExactTwiceAtUptoRow : OpenClaim := { program := "ytbamlihfaobfeaa", sum := "d8da276caa2baf377c2f2ff6be1f59d01158d02eed524773a84661f650f17842", func := "loop.example/g00330/laws.FnExactTwiceAt", spec := "fnExactTwiceAt", apart := false, narrowed := true }
def FnExactTwiceAtUptoSaid : Prop := fnExactTwiceAtUptoRow.holds Try.pinned (OpenSpec.upto fnExactTwiceAtSpec)

/-- 'laws.FnExactWaitOut', WHERE WHAT IT READS IS OF BULK AT MOST 1048576: true; the input reads as it did. -/
def fnExactWaitOutUptoRow : OpenClaim := { program := "ytbamlihfaobfeaa", sum := "d8da276caa2baf377c2f2ff6be1f59d01158d02eed524773a84661f650f17842", func := "loop.example/g00330/laws.FnExactWaitOut", spec := "fnExactWaitOut", apart := false, narrowed := true }
def FnExactWaitOutUptoSaid : Prop := fnExactWaitOutUptoRow.holds Try.pinned (OpenSpec.upto fnExactWaitOutSpec)

/-- 'laws.FnExactClusterNew', WHERE WHAT IT READS IS OF BULK AT MOST 1048576: true; the input reads as it did. -/
def fnExactClusterNewUptoRow : OpenClaim := { program := "ytbamlihfaobfeaa", sum := "d8da276caa2baf377c2f2ff6be1f59d01158d02eed524773a84661f650f17842", func := "loop.example/g00330/laws.FnExactClusterNew", spec := "fnExactClusterNew", apart := false, narrowed := true }
def FnExactClusterNewUptoSaid : Prop := fnExactClusterNewUptoRow.holds Try.pinned (OpenSpec.upto fnExactClusterNewSpec)

/-- 'laws.FnExactRowCells', WHERE WHAT IT READS IS OF BULK AT MOST 1048576: true; the input reads as it did. -/
def fnExactRowCellsUptoRow : OpenClaim := { program := "ytbamlihfaobfeaa", sum := "d8da276caa2baf377c2f2ff6be1f59d01158d02eed524773a84661f650f17842", func := "loop.example/g00330/laws.FnExactRowCells", spec := "fnExactRowCells", inPlace := ["slices.overlaps[loop.example/g00330/impl.Cell]"], unfollowed := true, recurses := true, apart := false, narrowed := true }
def FnExactRowCellsUptoSaid : Prop := fnExactRowCellsUptoRow.holds Try.pinned (OpenSpec.upto fnExactRowCellsSpec)

/-- 'laws.FnExactShows', WHERE WHAT IT READS IS OF BULK AT MOST 1048576: true; the input reads as it did. -/
def fnExactShowsUptoRow : OpenClaim := { program := "ytbamlihfaobfeaa", sum := "d8da276caa2baf377c2f2ff6be1f59d01158d02eed524773a84661f650f17842", func := "loop.example/g00330/laws.FnExactShows", spec := "fnExactShows", unfollowed := true, recurses := true, apart := false, narrowed := true }
def FnExactShowsUptoSaid : Prop := fnExactShowsUptoRow.holds Try.pinned (OpenSpec.upto fnExactShowsSpec)

end Rows
end Go.Proofs.Ytbamlihfaobfeaa
