/-
  DERIVED. GIVEN WITH THE SEED: THE CARDS: each row of YtddbjmambkepkaaGreatDoorRows.lean that lists a variable, with what it lists TIED to the program's text (the seventh form; the later family's looks); each row that meets fmt, with fmt's text TOLD by the authors' own Lean function (tested against real Go, not proved from fmt's source: count such statements apart). THE CARD IS WHAT COUNTS. Prove the row's statement (the work); the ties are given (YtddbjmambkepkaaGreatDoorTie.lean); close each card by the builder's one call (the guide's Derived/Test/ToyasCard.lean, 'card_holds'). Laid BY PROGRAM, IN A SANDBOX (cutbox-door.mjs). By AI agents, Wed Nov 11 2026. No macro, syntax, notation, axiom, sorry.
-/
import Derived.Test.YtddbjmambkepkaaGreatDoorRows
import GoSem.ClaimSeven
namespace Go.Proofs.YtddbjmambkepkaaGreatDoor
namespace Rows

/-- THE TIED CARD OF 'laws.FnScriptRemarks'. -/
def fnScriptRemarksCard : Claim7 := { stood := { row := fnScriptRemarksRow, standIns := [], harness := (true, "90b2fe1aa24d69187458e4aeba39bffbb6d9f14b9c62de85393b590aad31beae"), looks := true }, kinds := [], alts := [], laidByText := true, laidKinds := [.data, .data, .data, .data, .sentinel, .sentinel, .listed, .data, .pinned], laidTests := true, laidLooks := .later }
def FnScriptRemarksCardSaid : Prop := Claim7.holds Tryz.pinned (.plain (OpenSpec.ofChange fnScriptRemarksSpec)) fnScriptRemarksCard

/-- THE SECOND FORM's CARD OF 'laws.FnScriptRemarks'. -/
def fnScriptRemarksUptoCard : Claim7 := { stood := { row := fnScriptRemarksUptoRow, standIns := [], harness := (true, "90b2fe1aa24d69187458e4aeba39bffbb6d9f14b9c62de85393b590aad31beae"), looks := true }, kinds := [], alts := [], laidByText := true, laidKinds := [.data, .data, .data, .data, .sentinel, .sentinel, .listed, .data, .pinned], laidTests := true, laidLooks := .later }
def FnScriptRemarksUptoCardSaid : Prop := Claim7.holds Tryz.pinned (.plain (OpenSpec.upto fnScriptRemarksSpec)) fnScriptRemarksUptoCard
end Rows
end Go.Proofs.YtddbjmambkepkaaGreatDoor
