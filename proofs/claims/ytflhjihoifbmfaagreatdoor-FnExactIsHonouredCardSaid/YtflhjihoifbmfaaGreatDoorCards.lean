/-
  DERIVED. GIVEN WITH THE SEED: THE CARDS: each row of YtflhjihoifbmfaaGreatDoorRows.lean that lists a variable, with what it lists TIED to the program's text (the seventh form; the later family's looks); each row that meets fmt, with fmt's text TOLD by the authors' own Lean function (tested against real Go, not proved from fmt's source: count such statements apart). THE CARD IS WHAT COUNTS. Prove the row's statement (the work); the ties are given (YtflhjihoifbmfaaGreatDoorTie.lean); close each card by the builder's one call (the guide's Derived/Test/ToyasCard.lean, 'card_holds'). Laid BY PROGRAM, IN A SANDBOX (cutbox-door.mjs). By AI agents, Wed Nov 11 2026. No macro, syntax, notation, axiom, sorry.
-/
import Derived.Test.YtflhjihoifbmfaaGreatDoorRows
import GoSem.ClaimSeven
namespace Go.Proofs.YtflhjihoifbmfaaGreatDoor
namespace Rows

/-- THE TIED CARD OF 'laws.FnExactIsHonoured'. -/
def fnExactIsHonouredCard : Claim7 := { stood := { row := fnExactIsHonouredRow, standIns := [], harness := (true, "d3beb0d3ce6e0ef1abed974502476b7610792bc8cb0e3b1cc34e1f8cb02f2fdc"), looks := false }, kinds := [], alts := [], laidByText := true, laidKinds := [.data, .data, .data], laidTests := true, laidLooks := .later }
def FnExactIsHonouredCardSaid : Prop := Claim7.holds Tryz.pinned (.plain (OpenSpec.ofChange fnExactIsHonouredSpec)) fnExactIsHonouredCard

/-- THE SECOND FORM's CARD OF 'laws.FnExactIsHonoured'. -/
def fnExactIsHonouredUptoCard : Claim7 := { stood := { row := fnExactIsHonouredUptoRow, standIns := [], harness := (true, "d3beb0d3ce6e0ef1abed974502476b7610792bc8cb0e3b1cc34e1f8cb02f2fdc"), looks := false }, kinds := [], alts := [], laidByText := true, laidKinds := [.data, .data, .data], laidTests := true, laidLooks := .later }
def FnExactIsHonouredUptoCardSaid : Prop := Claim7.holds Tryz.pinned (.plain (OpenSpec.upto fnExactIsHonouredSpec)) fnExactIsHonouredUptoCard
end Rows
end Go.Proofs.YtflhjihoifbmfaaGreatDoor
