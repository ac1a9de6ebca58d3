/-
  No cell of these rows narrows 'for every input' (looked for: loops, veiled, ifaces, maps, wideKeys, modest, calm, conditions, laid).
  DERIVED. THE GIVEN ROWS OF THIS SEAT. 10 by the template 'for every input the law returns true; each argument reads behind the call as it read before'; 0 by the template 'total and deterministic' (their statements: YtgkeplbnnjogiaaGreatTotals.lean).
  GIVEN WITH THE SEED: the statements are not yours to turn. If you find one false, say at which input.
  Laid BY PROGRAM, IN A SANDBOX (cutbox-rows.mjs): the forced cells as the released guide's own fill.sh prints them over the translation ecd53a09e31b8607… (all of the seat's roots in one cut). By AI agents, Wed Nov 11 2026. No macro, syntax, notation, axiom, sorry.
-/
import Derived.Test.YtgkeplbnnjogiaaGreatChecked
import GoSem.Claim
import GoSem.ClaimJoined
import GoSem.ClaimMapViews
import Derived.JoinedTies
import Derived.KernelRfl
namespace Go.Proofs.YtgkeplbnnjogiaaGreat
/- THE CELL 'sum', in the pinned program and in every row, IS THE sha256 OF THE DUMP (.gsa) THAT YtgkeplbnnjogiaaGreatProg.lean LOADS. Nothing in Lean hashes anything: it is a label: what it is worth is what the hold of that sum in a sandbox is worth. -/
noncomputable def Tryz.pinned : Pinned := { name := "ytgkeplbnnjogiaagreat", sum := "ecd53a09e31b8607d88d1447083f4894a19e246e445057455b30e824cc203ead", checked := Tryz.checked }
namespace Rows
def none {H : Type} : Left H := { results := [], args := [] }

/-- 'laws.FnExactIsProven': WHATEVER THE INPUT: true; the input reads as it did. -/
def fnExactIsProvenSpec : ChangeSpec := { name := "fnExactIsProven", fn := fun _ => fun
  | [d1, d2] => { results := [.lit (.bool true)], args := [d1, d2] }
  | _ => none }
def fnExactIsProvenRow : OpenClaim := { program := "ytgkeplbnnjogiaagreat", sum := "ecd53a09e31b8607d88d1447083f4894a19e246e445057455b30e824cc203ead", func := "loop.example/g03002/laws.FnExactIsProven", spec := "fnExactIsProven", unfollowed := true, recurses := true, apart := false }
def FnExactIsProvenSaid : Prop := fnExactIsProvenRow.holds Tryz.pinned (OpenSpec.ofChange fnExactIsProvenSpec)

/-- ITS FALSE NEIGHBOUR: 'it returns false'. Refute it at one input. -/
def fnExactIsProvenWrong : ChangeSpec := { name := "fnExactIsProven", fn := fun _ => fun
  | [d1, d2] => { results := [.lit (.bool false)], args := [d1, d2] }
  | _ => none }
def FnExactIsProvenWrongFalsely : Prop := fnExactIsProvenRow.holds Tryz.pinned (OpenSpec.ofChange fnExactIsProvenWrong)

/-- 'laws.FnExactSavedBy': WHATEVER THE INPUT: true; the input reads as it did. -/
def fnExactSavedBySpec : ChangeSpec := { name := "fnExactSavedBy", fn := fun _ => fun
  | [d] => { results := [.lit (.bool true)], args := [d] }
  | _ => none }
def fnExactSavedByRow : OpenClaim := { program := "ytgkeplbnnjogiaagreat", sum := "ecd53a09e31b8607d88d1447083f4894a19e246e445057455b30e824cc203ead", func := "loop.example/g03002/laws.FnExactSavedBy", spec := "fnExactSavedBy", inPlace := ["slices.overlaps[loop.example/g03002/impl.Part]"], unfollowed := true, recurses := true, apart := false }
def FnExactSavedBySaid : Prop := fnExactSavedByRow.holds Tryz.pinned (OpenSpec.ofChange fnExactSavedBySpec)

/-- ITS FALSE NEIGHBOUR: 'it returns false'. Refute it at one input. -/
def fnExactSavedByWrong : ChangeSpec := { name := "fnExactSavedBy", fn := fun _ => fun
  | [d] => { results := [.lit (.bool false)], args := [d] }
  | _ => none }
def FnExactSavedByWrongFalsely : Prop := fnExactSavedByRow.holds Tryz.pinned (OpenSpec.ofChange fnExactSavedByWrong)

/-- 'laws.FnExactAddressesOf': WHATEVER THE INPUT: true; the input reads as it did. -/
def fnExactAddressesOfSpec : ChangeSpec := { name := "fnExactAddressesOf", fn := fun _ => fun
  | [d] => { results := [.lit (.bool true)], args := [d] }
  | _ => none }
def fnExactAddressesOfRow : OpenClaim := { program := "ytgkeplbnnjogiaagreat", sum := "ecd53a09e31b8607d88d1447083f4894a19e246e445057455b30e824cc203ead", func := "loop.example/g03002/laws.FnExactAddressesOf", spec := "fnExactAddressesOf", unfollowed := true, recurses := true, apart := false }
def FnExactAddressesOfSaid : Prop := fnExactAddressesOfRow.holds Tryz.pinned (OpenSpec.ofChange fnExactAddressesOfSpec)

/-- ITS FALSE NEIGHBOUR: 'it returns false'. Refute it at one input. -/
def fnExactAddressesOfWrong : ChangeSpec := { name := "fnExactAddressesOf", fn := fun _ => fun
  | [d] => { results := [.lit (.bool false)], args := [d] }
  | _ => none }
def FnExactAddressesOfWrongFalsely : Prop := fnExactAddressesOfRow.holds Tryz.pinned (OpenSpec.ofChange fnExactAddressesOfWrong)

/-- 'laws.FnExactStepWrite': WHATEVER THE INPUT: true; the input reads as it did. -/
def fnExactStepWriteSpec : ChangeSpec := { name := "fnExactStepWrite", fn := fun _ => fun
  | [d] => { results := [.lit (.bool true)], args := [d] }
  | _ => none }
def fnExactStepWriteRow : OpenClaim := { program := "ytgkeplbnnjogiaagreat", sum := "ecd53a09e31b8607d88d1447083f4894a19e246e445057455b30e824cc203ead", func := "loop.example/g03002/laws.FnExactStepWrite", spec := "fnExactStepWrite", inPlace := ["slices.overlaps[int]"], unfollowed := true, recurses := true, apart := false }
def FnExactStepWriteSaid : Prop := fnExactStepWriteRow.holds Tryz.pinned (OpenSpec.ofChange fnExactStepWriteSpec)

/-- ITS FALSE NEIGHBOUR: 'it returns false'. Refute it at one input. -/
def fnExactStepWriteWrong : ChangeSpec := { name := "fnExactStepWrite", fn := fun _ => fun
  | [d] => { results := [.lit (.bool false)], args := [d] }
  | _ => none }
def FnExactStepWriteWrongFalsely : Prop := fnExactStepWriteRow.holds Tryz.pinned (OpenSpec.ofChange fnExactStepWriteWrong)

/-- 'laws.FnExactStepRepair': WHATEVER THE INPUT: true; the input reads as it did. -/
def fnExactStepRepairSpec : ChangeSpec := { name := "fnExactStepRepair", fn := fun _ => fun
  | [d] => { results := [.lit (.bool true)], args := [d] }
  | _ => none }
def fnExactStepRepairRow : OpenClaim := { program := "ytgkeplbnnjogiaagreat", sum := "ecd53a09e31b8607d88d1447083f4894a19e246e445057455b30e824cc203ead", func := "loop.example/g03002/laws.FnExactStepRepair", spec := "fnExactStepRepair", inPlace := ["slices.overlaps[int]"], unfollowed := true, recurses := true, apart := false }
def FnExactStepRepairSaid : Prop := fnExactStepRepairRow.holds Tryz.pinned (OpenSpec.ofChange fnExactStepRepairSpec)

/-- ITS FALSE NEIGHBOUR: 'it returns false'. Refute it at one input. -/
def fnExactStepRepairWrong : ChangeSpec := { name := "fnExactStepRepair", fn := fun _ => fun
  | [d] => { results := [.lit (.bool false)], args := [d] }
  | _ => none }
def FnExactStepRepairWrongFalsely : Prop := fnExactStepRepairRow.holds Tryz.pinned (OpenSpec.ofChange fnExactStepRepairWrong)

/-- 'laws.FnExactPartsOf': WHATEVER THE INPUT: true; the input reads as it did. -/
def fnExactPartsOfSpec : ChangeSpec := { name := "fnExactPartsOf", fn := fun _ => fun
  | [d] => { results := [.lit (.bool true)], args := [d] }
  | _ => none }
def fnExactPartsOfRow : OpenClaim := { program := "ytgkeplbnnjogiaagreat", sum := "ecd53a09e31b8607d88d1447083f4894a19e246e445057455b30e824cc203ead", func := "loop.example/g03002/laws.FnExactPartsOf", spec := "fnExactPartsOf", inPlace := ["slices.overlaps[loop.example/g03002/impl.Part]"], unfollowed := true, recurses := true, apart := false }
def FnExactPartsOfSaid : Prop := fnExactPartsOfRow.holds Tryz.pinned (OpenSpec.ofChange fnExactPartsOfSpec)

/-- ITS FALSE NEIGHBOUR: 'it returns false'. Refute it at one input. -/
def fnExactPartsOfWrong : ChangeSpec := { name := "fnExactPartsOf", fn := fun _ => fun
  | [d] => { results := [.lit (.bool false)], args := [d] }
  | _ => none }
def FnExactPartsOfWrongFalsely : Prop := fnExactPartsOfRow.holds Tryz.pinned (OpenSpec.ofChange fnExactPartsOfWrong)

/-- 'laws.FnExactQualityNow': WHATEVER THE INPUT: true; the input reads as it did. -/
def fnExactQualityNowSpec : ChangeSpec := { name := "fnExactQualityNow", fn := fun _ => fun
  | [d1, d2] => { results := [.lit (.bool true)], args := [d1, d2] }
  | _ => none }
def fnExactQualityNowRow : OpenClaim := { program := "ytgkeplbnnjogiaagreat", sum := "ecd53a09e31b8607d88d1447083f4894a19e246e445057455b30e824cc203ead", func := "loop.example/g03002/laws.FnExactQualityNow", spec := "fnExactQualityNow", unfollowed := true, recurses := true, apart := false }
def FnExactQualityNowSaid : Prop := fnExactQualityNowRow.holds Tryz.pinned (OpenSpec.ofChange fnExactQualityNowSpec)

/-- ITS FALSE NEIGHBOUR: 'it returns false'. Refute it at one input. -/
def fnExactQualityNowWrong : ChangeSpec := { name := "fnExactQualityNow", fn := fun _ => fun
  | [d1, d2] => { results := [.lit (.bool false)], args := [d1, d2] }
  | _ => none }
def FnExactQualityNowWrongFalsely : Prop := fnExactQualityNowRow.holds Tryz.pinned (OpenSpec.ofChange fnExactQualityNowWrong)

/-- 'laws.FnExactReadPage': WHATEVER THE INPUT: true; the input reads as it did. -/
def fnExactReadPageSpec : ChangeSpec := { name := "fnExactReadPage", fn := fun _ => fun
  | [d1, d2, d3] => { results := [.lit (.bool true)], args := [d1, d2, d3] }
  | _ => none }
def fnExactReadPageRow : OpenClaim := { program := "ytgkeplbnnjogiaagreat", sum := "ecd53a09e31b8607d88d1447083f4894a19e246e445057455b30e824cc203ead", func := "loop.example/g03002/laws.FnExactReadPage", spec := "fnExactReadPage", unfollowed := true, recurses := true, apart := false }
def FnExactReadPageSaid : Prop := fnExactReadPageRow.holds Tryz.pinned (OpenSpec.ofChange fnExactReadPageSpec)

/-- ITS FALSE NEIGHBOUR: 'it returns false'. Refute it at one input. -/
def fnExactReadPageWrong : ChangeSpec := { name := "fnExactReadPage", fn := fun _ => fun
  | [d1, d2, d3] => { results := [.lit (.bool false)], args := [d1, d2, d3] }
  | _ => none }
def FnExactReadPageWrongFalsely : Prop := fnExactReadPageRow.holds Tryz.pinned (OpenSpec.ofChange fnExactReadPageWrong)

/-- 'laws.FnExactKeepVisit': WHATEVER THE INPUT: true; the input reads as it did. -/
def fnExactKeepVisitSpec : ChangeSpec := { name := "fnExactKeepVisit", fn := fun _ => fun
  | [d1, d2, d3] => { results := [.lit (.bool true)], args := [d1, d2, d3] }
  | _ => none }
def fnExactKeepVisitRow : OpenClaim := { program := "ytgkeplbnnjogiaagreat", sum := "ecd53a09e31b8607d88d1447083f4894a19e246e445057455b30e824cc203ead", func := "loop.example/g03002/laws.FnExactKeepVisit", spec := "fnExactKeepVisit", inPlace := ["slices.overlaps[int]"], unfollowed := true, recurses := true, apart := false }
def FnExactKeepVisitSaid : Prop := fnExactKeepVisitRow.holds Tryz.pinned (OpenSpec.ofChange fnExactKeepVisitSpec)

/-- ITS FALSE NEIGHBOUR: 'it returns false'. Refute it at one input. -/
def fnExactKeepVisitWrong : ChangeSpec := { name := "fnExactKeepVisit", fn := fun _ => fun
  | [d1, d2, d3] => { results := [.lit (.bool false)], args := [d1, d2, d3] }
  | _ => none }
def FnExactKeepVisitWrongFalsely : Prop := fnExactKeepVisitRow.holds Tryz.pinned (OpenSpec.ofChange fnExactKeepVisitWrong)

/-- 'laws.FnExactStepVisit': WHATEVER THE INPUT: true; the input reads as it did. -/
def fnExactStepVisitSpec : ChangeSpec := { name := "fnExactStepVisit", fn := fun _ => fun
  | [d1, d2, d3] => { results := [.lit (.bool true)], args := [d1, d2, d3] }
  | _ => none }
def fnExactStepVisitRow : OpenClaim := { program := "ytgkeplbnnjogiaagreat", sum := "ecd53a09e31b8607d88d1447083f4894a19e246e445057455b30e824cc203ead", func := "loop.example/g03002/laws.FnExactStepVisit", spec := "fnExactStepVisit", unfollowed := true, recurses := true, apart := false }
def FnExactStepVisitSaid : Prop := fnExactStepVisitRow.holds Tryz.pinned (OpenSpec.ofChange fnExactStepVisitSpec)

/-- ITS FALSE NEIGHBOUR: 'it returns false'. Refute it at one input. -/
def fnExactStepVisitWrong : ChangeSpec := { name := "fnExactStepVisit", fn := fun _ => fun
  | [d1, d2, d3] => { results := [.lit (.bool false)], args := [d1, d2, d3] }
  | _ => none }
def FnExactStepVisitWrongFalsely : Prop := fnExactStepVisitRow.holds Tryz.pinned (OpenSpec.ofChange fnExactStepVisitWrong)

/- THE SECOND FORM. 'bulk': how many values and letters a reading holds, each counted each time it is reached (what is shared counts as often as it is met; a slice's spare places count too). A statement '..UptoSaid' is the law's where the arguments, and the package variables that the reading takes, are together of bulk at most 1048576: NARROWER than '..Said'. Prove '..Said' where nothing that the law and all that it calls make is longer than what came in: it says more and counts as full. Else prove '..UptoSaid'. A law counts once. -/
mutual
def uptoBulk {H : Type} : DataW H → Nat
  | .lit (.string bytes) => bytes.length + 1
  | .lit _ => 1
  | .nil => 1
  | .ptr d => uptoBulk d + 1
  | .slice elems spare => uptoBulkAll elems + uptoBulkAll spare + 1
  | .agg parts => uptoBulkAll parts + 1
  | .iface _ d => uptoBulk d + 1
  | .map entries => uptoBulkEntries entries + 1
  | .held _ => 1
def uptoBulkAll {H : Type} : List (DataW H) → Nat
  | [] => 0
  | d :: r => uptoBulk d + uptoBulkAll r
def uptoBulkEntries {H : Type} : List (Lit × DataW H) → Nat
  | [] => 0
  | x :: r => uptoBulkEntry x + uptoBulkEntries r
def uptoBulkEntry {H : Type} : Lit × DataW H → Nat
  | (.string bytes, d) => bytes.length + uptoBulk d + 1
  | (_, d) => uptoBulk d + 1
 end
def uptoSmall : (H : Type) → List (DataW H) → Bool := fun _ ds => decide (uptoBulkAll ds ≤ 1048576)
def OpenSpec.upto (s : _root_.Go.ChangeSpec) : _root_.Go.OpenSpec := { _root_.Go.OpenSpec.ofChange s with cond := some uptoSmall }

/-- 'laws.FnExactIsProven', WHERE WHAT IT READS IS OF BULK AT MOST 1048576: true; the input reads as it did. -/
def fnExactIsProvenUptoRow : OpenClaim := { program := "ytgkeplbnnjogiaagreat", sum := "ecd53a09e31b8607d88d1447083f4894a19e246e445057455b30e824cc203ead", func := "loop.example/g03002/laws.FnExactIsProven", spec := "fnExactIsProven", unfollowed := true, recurses := true, apart := false, narrowed := true }
def FnExactIsProvenUptoSaid : Prop := fnExactIsProvenUptoRow.holds Tryz.pinned (OpenSpec.upto fnExactIsProvenSpec)

/-- 'laws.FnExactSavedBy', WHERE WHAT IT READS IS OF BULK AT MOST 1048576: true; the input reads as it did. -/
def fnExactSavedByUptoRow : OpenClaim := { program := "ytgkeplbnnjogiaagreat", sum := "ecd53a09e31b8607d88d1447083f4894a19e246e445057455b30e824cc203ead", func := "loop.example/g03002/laws.FnExactSavedBy", spec := "fnExactSavedBy", inPlace := ["slices.overlaps[loop.example/g03002/impl.Part]"], unfollowed := true, recurses := true, apart := false, narrowed := true }
def FnExactSavedByUptoSaid : Prop := fnExactSavedByUptoRow.holds Tryz.pinned (OpenSpec.upto fnExactSavedBySpec)

/-- 'laws.FnExactAddressesOf', WHERE WHAT IT READS IS OF BULK AT MOST 1048576: true; the input reads as it did. -/
def fnExactAddressesOfUptoRow : OpenClaim := { program := "ytgkeplbnnjogiaagreat", sum := "ecd53a09e31b8607d88d1447083f4894a19e246e445057455b30e824cc203ead", func := "loop.example/g03002/laws.FnExactAddressesOf", spec := "fnExactAddressesOf", unfollowed := true, recurses := true, apart := false, narrowed := true }
def FnExactAddressesOfUptoSaid : Prop := fnExactAddressesOfUptoRow.holds Tryz.pinned (OpenSpec.upto fnExactAddressesOfSpec)

/-- 'laws.FnExactStepWrite', WHERE WHAT IT READS IS OF BULK AT MOST 1048576: true; the input reads as it did. -/
def fnExactStepWriteUptoRow : OpenClaim := { program := "ytgkeplbnnjogiaagreat", sum := "ecd53a09e31b8607d88d1447083f4894a19e246e445057455b30e824cc203ead", func := "loop.example/g03002/laws.FnExactStepWrite", spec := "fnExactStepWrite", inPlace := ["slices.overlaps[int]"], unfollowed := true, recurses := true, apart := false, narrowed := true }
def FnExactStepWriteUptoSaid : Prop := fnExactStepWriteUptoRow.holds Tryz.pinned (OpenSpec.upto fnExactStepWriteSpec)

/-- 'laws.FnExactStepRepair', WHERE WHAT IT READS IS OF BULK AT MOST 1048576: true; the input reads as it did. -/
def fnExactStepRepairUptoRow : OpenClaim := { program := "ytgkeplbnnjogiaagreat", sum := "ecd53a09e31b8607d88d1447083f4894a19e246e445057455b30e824cc203ead", func := "loop.example/g03002/laws.FnExactStepRepair", spec := "fnExactStepRepair", inPlace := ["slices.overlaps[int]"], unfollowed := true, recurses := true, apart := false, narrowed := true }
def FnExactStepRepairUptoSaid : Prop := fnExactStepRepairUptoRow.holds Tryz.pinned (OpenSpec.upto fnExactStepRepairSpec)

/-- 'laws.FnExactPartsOf', WHERE WHAT IT READS IS OF BULK AT MOST 1048576: true; the input reads as it did. -/
def fnExactPartsOfUptoRow : OpenClaim := { program := "ytgkeplbnnjogiaagreat", sum := "ecd53a09e31b8607d88d1447083f4894a19e246e445057455b30e824cc203ead", func := "loop.example/g03002/laws.FnExactPartsOf", spec := "fnExactPartsOf", inPlace := ["slices.overlaps[loop.example/g03002/impl.Part]"], unfollowed := true, recurses := true, apart := false, narrowed := true }
def FnExactPartsOfUptoSaid : Prop := fnExactPartsOfUptoRow.holds Tryz.pinned (OpenSpec.upto fnExactPartsOfSpec)

/-- 'laws.FnExactQualityNow', WHERE WHAT IT READS IS OF BULK AT MOST 1048576: true; the input reads as it did. -/
def fnExactQualityNowUptoRow : OpenClaim := { program := "ytgkeplbnnjogiaagreat", sum := "ecd53a09e31b8607d88d1447083f4894a19e246e445057455b30e824cc203ead", func := "loop.example/g03002/laws.FnExactQualityNow", spec := "fnExactQualityNow", unfollowed := true, recurses := true, apart := false, narrowed := true }
def FnExactQualityNowUptoSaid : Prop := fnExactQualityNowUptoRow.holds Tryz.pinned (OpenSpec.upto fnExactQualityNowSpec)

/-- 'laws.FnExactReadPage', WHERE WHAT IT READS IS OF BULK AT MOST 1048576: true; the input reads as it did. -/
def fnExactReadPageUptoRow : OpenClaim := { program := "ytgkeplbnnjogiaagreat", sum := "ecd53a09e31b8607d88d1447083f4894a19e246e445057455b30e824cc203ead", func := "loop.example/g03002/laws.FnExactReadPage", spec := "fnExactReadPage", unfollowed := true, recurses := true, apart := false, narrowed := true }
def FnExactReadPageUptoSaid : Prop := fnExactReadPageUptoRow.holds Tryz.pinned (OpenSpec.upto fnExactReadPageSpec)

/-- 'laws.FnExactKeepVisit', WHERE WHAT IT READS IS OF BULK AT MOST 1048576: true; the input reads as it did. -/
def fnExactKeepVisitUptoRow : OpenClaim := { program := "ytgkeplbnnjogiaagreat", sum := "ecd53a09e31b8607d88d1447083f4894a19e246e445057455b30e824cc203ead", func := "loop.example/g03002/laws.FnExactKeepVisit", spec := "fnExactKeepVisit", inPlace := ["slices.overlaps[int]"], unfollowed := true, recurses := true, apart := false, narrowed := true }
def FnExactKeepVisitUptoSaid : Prop := fnExactKeepVisitUptoRow.holds Tryz.pinned (OpenSpec.upto fnExactKeepVisitSpec)

/-- 'laws.FnExactStepVisit', WHERE WHAT IT READS IS OF BULK AT MOST 1048576: true; the input reads as it did. -/
def fnExactStepVisitUptoRow : OpenClaim := { program := "ytgkeplbnnjogiaagreat", sum := "ecd53a09e31b8607d88d1447083f4894a19e246e445057455b30e824cc203ead", func := "loop.example/g03002/laws.FnExactStepVisit", spec := "fnExactStepVisit", unfollowed := true, recurses := true, apart := false, narrowed := true }
def FnExactStepVisitUptoSaid : Prop := fnExactStepVisitUptoRow.holds Tryz.pinned (OpenSpec.upto fnExactStepVisitSpec)

end Rows
end Go.Proofs.YtgkeplbnnjogiaaGreat
