/-
  DERIVED. GIVEN WITH THE SEED: THE CARDS: each row of YtbamlihfaobfeaaDoorRows.lean that lists a variable, with what it lists TIED to the program's text (the seventh form; the later family's looks); each row that meets fmt, with fmt's text TOLD by the authors' own Lean function (tested against real Go, not proved from fmt's source: count such statements apart). THE CARD IS WHAT COUNTS. Prove the row's statement (the work); the ties are given (YtbamlihfaobfeaaDoorTie.lean); close each card by the builder's one call (the guide's Derived/Test/ToyasCard.lean, 'card_holds'). Laid BY PROGRAM, IN A SANDBOX (cutbox-door.mjs). By AI agents, Wed Nov 11 2026. No macro, syntax, notation, axiom, sorry.
-/
import Derived.Test.YtbamlihfaobfeaaDoorRows
import GoSem.ClaimSeven
namespace Go.Proofs.YtbamlihfaobfeaaDoor
namespace Rows

/-- THE TIED CARD OF 'laws.FnExactShowRow'. -/
def fnExactShowRowCard : Claim7 := { stood := { row := fnExactShowRowRow, standIns := [], harness := (true, "e5db4ded6d29c34447c9342175b7ddb73429cb953d2c859095a254a9a12a837b"), looks := false }, kinds := [], alts := [], laidByText := true, laidKinds := [.data, .data, .data], laidTests := true, laidLooks := .later }
def FnExactShowRowCardSaid : Prop := Claim7.holds Tryd.pinned (.plain (OpenSpec.ofChange fnExactShowRowSpec)) fnExactShowRowCard

/-- THE SECOND FORM's CARD OF 'laws.FnExactShowRow'. -/
def fnExactShowRowUptoCard : Claim7 := { stood := { row := fnExactShowRowUptoRow, standIns := [], harness := (true, "e5db4ded6d29c34447c9342175b7ddb73429cb953d2c859095a254a9a12a837b"), looks := false }, kinds := [], alts := [], laidByText := true, laidKinds := [.data, .data, .data], laidTests := true, laidLooks := .later }
def FnExactShowRowUptoCardSaid : Prop := Claim7.holds Tryd.pinned (.plain (OpenSpec.upto fnExactShowRowSpec)) fnExactShowRowUptoCard
end Rows
end Go.Proofs.YtbamlihfaobfeaaDoor
