/-
  DERIVED. GIVEN WITH THE SEED: THE CARDS: each row of YtldjbgjcfncdjaaDoorRows.lean that lists a variable, with what it lists TIED to the program's text (the seventh form; the later family's looks); each row that meets fmt, with fmt's text TOLD by the authors' own Lean function (tested against real Go, not proved from fmt's source: count such statements apart). THE CARD IS WHAT COUNTS. Prove the row's statement (the work); the ties are given (YtldjbgjcfncdjaaDoorTie.lean); close each card by the builder's one call (the guide's Derived/Test/ToyasCard.lean, 'card_holds'). Laid BY PROGRAM, IN A SANDBOX (cutbox-door.mjs). By AI agents, Wed Nov 11 2026. No macro, syntax, notation, axiom, sorry.
-/
import Derived.Test.YtldjbgjcfncdjaaDoorRows
import GoSem.ClaimSeven
namespace Go.Proofs.YtldjbgjcfncdjaaDoor
namespace Rows

/-- THE TIED CARD OF 'laws.FnExactFormatList'. -/
def fnExactFormatListCard : Claim7 := { stood := { row := fnExactFormatListRow, standIns := [], harness := (true, "adae01b2ee6f76a2e3fe226c2bbe167da8c24289312d1b5b5a1ca79680f5e381"), looks := false }, kinds := [], alts := [], laidByText := true, laidKinds := [.data, .data, .data], laidTests := true, laidLooks := .later }
def FnExactFormatListCardSaid : Prop := Claim7.holds Tryd.pinned (.plain (OpenSpec.ofChange fnExactFormatListSpec)) fnExactFormatListCard

/-- THE TIED CARD OF 'laws.FnExactFormatPlayed'. -/
def fnExactFormatPlayedCard : Claim7 := { stood := { row := fnExactFormatPlayedRow, standIns := [], harness := (true, "adae01b2ee6f76a2e3fe226c2bbe167da8c24289312d1b5b5a1ca79680f5e381"), looks := false }, kinds := [], alts := [], laidByText := true, laidKinds := [.data, .data, .data], laidTests := true, laidLooks := .later }
def FnExactFormatPlayedCardSaid : Prop := Claim7.holds Tryd.pinned (.plain (OpenSpec.ofChange fnExactFormatPlayedSpec)) fnExactFormatPlayedCard

/-- THE TIED CARD OF 'laws.FnExactFormatChanges'. -/
def fnExactFormatChangesCard : Claim7 := { stood := { row := fnExactFormatChangesRow, standIns := [], harness := (true, "adae01b2ee6f76a2e3fe226c2bbe167da8c24289312d1b5b5a1ca79680f5e381"), looks := false }, kinds := [], alts := [], laidByText := true, laidKinds := [.data, .data, .data], laidTests := true, laidLooks := .later }
def FnExactFormatChangesCardSaid : Prop := Claim7.holds Tryd.pinned (.plain (OpenSpec.ofChange fnExactFormatChangesSpec)) fnExactFormatChangesCard

/-- THE TIED CARD OF 'laws.FnExactFormatCapture'. -/
def fnExactFormatCaptureCard : Claim7 := { stood := { row := fnExactFormatCaptureRow, standIns := [], harness := (true, "adae01b2ee6f76a2e3fe226c2bbe167da8c24289312d1b5b5a1ca79680f5e381"), looks := false }, kinds := [], alts := [], laidByText := true, laidKinds := [.data, .data, .data], laidTests := true, laidLooks := .later }
def FnExactFormatCaptureCardSaid : Prop := Claim7.holds Tryd.pinned (.plain (OpenSpec.ofChange fnExactFormatCaptureSpec)) fnExactFormatCaptureCard

/-- THE TIED CARD OF 'laws.FnExactFormatWander'. -/
def fnExactFormatWanderCard : Claim7 := { stood := { row := fnExactFormatWanderRow, standIns := [], harness := (true, "adae01b2ee6f76a2e3fe226c2bbe167da8c24289312d1b5b5a1ca79680f5e381"), looks := false }, kinds := [], alts := [], laidByText := true, laidKinds := [.data, .data, .data], laidTests := true, laidLooks := .later }
def FnExactFormatWanderCardSaid : Prop := Claim7.holds Tryd.pinned (.plain (OpenSpec.ofChange fnExactFormatWanderSpec)) fnExactFormatWanderCard

/-- THE TIED CARD OF 'laws.FnExactFormatArchive'. -/
def fnExactFormatArchiveCard : Claim7 := { stood := { row := fnExactFormatArchiveRow, standIns := [], harness := (true, "adae01b2ee6f76a2e3fe226c2bbe167da8c24289312d1b5b5a1ca79680f5e381"), looks := false }, kinds := [], alts := [], laidByText := true, laidKinds := [.data, .data, .data], laidTests := true, laidLooks := .later }
def FnExactFormatArchiveCardSaid : Prop := Claim7.holds Tryd.pinned (.plain (OpenSpec.ofChange fnExactFormatArchiveSpec)) fnExactFormatArchiveCard

/-- THE SECOND FORM's CARD OF 'laws.FnExactFormatList'. -/
def fnExactFormatListUptoCard : Claim7 := { stood := { row := fnExactFormatListUptoRow, standIns := [], harness := (true, "adae01b2ee6f76a2e3fe226c2bbe167da8c24289312d1b5b5a1ca79680f5e381"), looks := false }, kinds := [], alts := [], laidByText := true, laidKinds := [.data, .data, .data], laidTests := true, laidLooks := .later }
def FnExactFormatListUptoCardSaid : Prop := Claim7.holds Tryd.pinned (.plain (OpenSpec.upto fnExactFormatListSpec)) fnExactFormatListUptoCard

/-- THE SECOND FORM's CARD OF 'laws.FnExactFormatPlayed'. -/
def fnExactFormatPlayedUptoCard : Claim7 := { stood := { row := fnExactFormatPlayedUptoRow, standIns := [], harness := (true, "adae01b2ee6f76a2e3fe226c2bbe167da8c24289312d1b5b5a1ca79680f5e381"), looks := false }, kinds := [], alts := [], laidByText := true, laidKinds := [.data, .data, .data], laidTests := true, laidLooks := .later }
def FnExactFormatPlayedUptoCardSaid : Prop := Claim7.holds Tryd.pinned (.plain (OpenSpec.upto fnExactFormatPlayedSpec)) fnExactFormatPlayedUptoCard

/-- THE SECOND FORM's CARD OF 'laws.FnExactFormatChanges'. -/
def fnExactFormatChangesUptoCard : Claim7 := { stood := { row := fnExactFormatChangesUptoRow, standIns := [], harness := (true, "adae01b2ee6f76a2e3fe226c2bbe167da8c24289312d1b5b5a1ca79680f5e381"), looks := false }, kinds := [], alts := [], laidByText := true, laidKinds := [.data, .data, .data], laidTests := true, laidLooks := .later }
def FnExactFormatChangesUptoCardSaid : Prop := Claim7.holds Tryd.pinned (.plain (OpenSpec.upto fnExactFormatChangesSpec)) fnExactFormatChangesUptoCard

/-- THE SECOND FORM's CARD OF 'laws.FnExactFormatCapture'. -/
def fnExactFormatCaptureUptoCard : Claim7 := { stood := { row := fnExactFormatCaptureUptoRow, standIns := [], harness := (true, "adae01b2ee6f76a2e3fe226c2bbe167da8c24289312d1b5b5a1ca79680f5e381"), looks := false }, kinds := [], alts := [], laidByText := true, laidKinds := [.data, .data, .data], laidTests := true, laidLooks := .later }
def FnExactFormatCaptureUptoCardSaid : Prop := Claim7.holds Tryd.pinned (.plain (OpenSpec.upto fnExactFormatCaptureSpec)) fnExactFormatCaptureUptoCard

/-- THE SECOND FORM's CARD OF 'laws.FnExactFormatWander'. -/
def fnExactFormatWanderUptoCard : Claim7 := { stood := { row := fnExactFormatWanderUptoRow, standIns := [], harness := (true, "adae01b2ee6f76a2e3fe226c2bbe167da8c24289312d1b5b5a1ca79680f5e381"), looks := false }, kinds := [], alts := [], laidByText := true, laidKinds := [.data, .data, .data], laidTests := true, laidLooks := .later }
def FnExactFormatWanderUptoCardSaid : Prop := Claim7.holds Tryd.pinned (.plain (OpenSpec.upto fnExactFormatWanderSpec)) fnExactFormatWanderUptoCard

/-- THE SECOND FORM's CARD OF 'laws.FnExactFormatArchive'. -/
def fnExactFormatArchiveUptoCard : Claim7 := { stood := { row := fnExactFormatArchiveUptoRow, standIns := [], harness := (true, "adae01b2ee6f76a2e3fe226c2bbe167da8c24289312d1b5b5a1ca79680f5e381"), looks := false }, kinds := [], alts := [], laidByText := true, laidKinds := [.data, .data, .data], laidTests := true, laidLooks := .later }
def FnExactFormatArchiveUptoCardSaid : Prop := Claim7.holds Tryd.pinned (.plain (OpenSpec.upto fnExactFormatArchiveSpec)) fnExactFormatArchiveUptoCard
end Rows
end Go.Proofs.YtldjbgjcfncdjaaDoor
