/-
  DERIVED. GIVEN WITH THE SEED: THE CARDS: each row of YtpeabgkoknjojaaGreatDoorRows.lean that lists a variable, with what it lists TIED to the program's text (the seventh form; the later family's looks); each row that meets fmt, with fmt's text TOLD by the authors' own Lean function (tested against real Go, not proved from fmt's source: count such statements apart). THE CARD IS WHAT COUNTS. Prove the row's statement (the work); the ties are given (YtpeabgkoknjojaaGreatDoorTie.lean); close each card by the builder's one call (the guide's Derived/Test/ToyasCard.lean, 'card_holds'). Laid BY PROGRAM, IN A SANDBOX (cutbox-door.mjs). By AI agents, Wed Nov 11 2026. No macro, syntax, notation, axiom, sorry.
-/
import Derived.Test.YtpeabgkoknjojaaGreatDoorRows
import GoSem.ClaimSeven
namespace Go.Proofs.YtpeabgkoknjojaaGreatDoor
namespace Rows

/-- THE TIED CARD OF 'laws.FnExactFaultOf'. -/
def fnExactFaultOfCard : Claim7 := { stood := { row := fnExactFaultOfRow, standIns := [], harness := (true, "ddb28a190e31c3381e2eca0925982f7c89a6e315ca2ab860a9d50264c22d6b94"), looks := false }, kinds := [], alts := [], laidByText := true, laidKinds := [.data, .data, .data], laidTests := true, laidLooks := .later }
def FnExactFaultOfCardSaid : Prop := Claim7.holds Tryz.pinned (.plain (OpenSpec.ofChange fnExactFaultOfSpec)) fnExactFaultOfCard

/-- THE SECOND FORM's CARD OF 'laws.FnExactFaultOf'. -/
def fnExactFaultOfUptoCard : Claim7 := { stood := { row := fnExactFaultOfUptoRow, standIns := [], harness := (true, "ddb28a190e31c3381e2eca0925982f7c89a6e315ca2ab860a9d50264c22d6b94"), looks := false }, kinds := [], alts := [], laidByText := true, laidKinds := [.data, .data, .data], laidTests := true, laidLooks := .later }
def FnExactFaultOfUptoCardSaid : Prop := Claim7.holds Tryz.pinned (.plain (OpenSpec.upto fnExactFaultOfSpec)) fnExactFaultOfUptoCard
end Rows
end Go.Proofs.YtpeabgkoknjojaaGreatDoor
