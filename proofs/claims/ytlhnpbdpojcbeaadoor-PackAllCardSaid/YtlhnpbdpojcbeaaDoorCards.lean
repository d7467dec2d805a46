/-
  DERIVED. GIVEN WITH THE SEED: THE CARDS: each row of YtlhnpbdpojcbeaaDoorRows.lean that lists a variable, with what it lists TIED to the program's text (the seventh form; the later family's looks); each row that meets fmt, with fmt's text TOLD by the authors' own Lean function (tested against real Go, not proved from fmt's source: count such statements apart). THE CARD IS WHAT COUNTS. Prove the row's statement (the work); the ties are given (YtlhnpbdpojcbeaaDoorTie.lean); close each card by the builder's one call (the guide's Derived/Test/ToyasCard.lean, 'card_holds'). Laid BY PROGRAM, IN A SANDBOX (cutbox-door.mjs). By AI agents, Wed Nov 11 2026. No macro, syntax, notation, axiom, sorry.
-/
import Derived.Test.YtlhnpbdpojcbeaaDoorRows
import GoSem.ClaimSeven
namespace Go.Proofs.YtlhnpbdpojcbeaaDoor
namespace Rows

/-- THE TIED CARD OF 'swinglelaw26.PackAll'. -/
def packAllCard : Claim7 := { stood := { row := packAllRow, standIns := [], harness := (true, "a1f85b354deba903719a9e5db87931766b8b2e5d5d0be3c9b73dcf89bd0c4151"), looks := true }, kinds := [], alts := [], laidByText := true, laidKinds := [.data, .data], laidTests := true, laidLooks := .later }
def PackAllCardSaid : Prop := Claim7.holds Tryd.pinned (.plain (OpenSpec.ofChange packAllSpec)) packAllCard

/-- THE SECOND FORM's CARD OF 'swinglelaw26.PackAll'. -/
def packAllUptoCard : Claim7 := { stood := { row := packAllUptoRow, standIns := [], harness := (true, "a1f85b354deba903719a9e5db87931766b8b2e5d5d0be3c9b73dcf89bd0c4151"), looks := true }, kinds := [], alts := [], laidByText := true, laidKinds := [.data, .data], laidTests := true, laidLooks := .later }
def PackAllUptoCardSaid : Prop := Claim7.holds Tryd.pinned (.plain (OpenSpec.upto packAllSpec)) packAllUptoCard
end Rows
end Go.Proofs.YtlhnpbdpojcbeaaDoor
