/-
  No cell of these rows narrows 'for every input' (looked for: loops, veiled, ifaces, maps, wideKeys, modest, calm, conditions, laid).
  DERIVED. THE GIVEN ROWS OF THIS SEAT. 5 by the template 'for every input the law returns true; each argument reads behind the call as it read before'; 0 by the template 'total and deterministic' (their statements: YtjneccbpkckdfaaGreatTotals.lean).
  GIVEN WITH THE SEED: the statements are not yours to turn. If you find one false, say at which input.
  Laid BY PROGRAM, IN A SANDBOX (cutbox-rows.mjs): the forced cells as the released guide's own fill.sh prints them over the translation 7613edd187b2c508… (all of the seat's roots in one cut). By AI agents, Wed Nov 11 2026. No macro, syntax, notation, axiom, sorry.
-/
import Derived.Test.YtjneccbpkckdfaaGreatChecked
import GoSem.Claim
import GoSem.ClaimJoined
import GoSem.ClaimMapViews
import Derived.JoinedTies
import Derived.KernelRfl
namespace Go.Proofs.YtjneccbpkckdfaaGreat
/- THE CELL 'sum', in the pinned program and in every row, IS THE sha256 OF THE DUMP (.gsa) THAT YtjneccbpkckdfaaGreatProg.lean LOADS. Nothing in Lean hashes anything: it is a label: what it is worth is what the hold of that sum in a sandbox is worth. -/
noncomputable def Tryz.pinned : Pinned := { name := "ytjneccbpkckdfaagreat", sum := "7613edd187b2c508e4227f266dca0dc36a8f3228f3e28d5929e1a853845143c3", checked := Tryz.checked }
namespace Rows
def none {H : Type} : Left H := { results := [], args := [] }

/-- 'laws.FnExactApplyEvent': WHATEVER THE INPUT: true; the input reads as it did. -/
def fnExactApplyEventSpec : ChangeSpec := { name := "fnExactApplyEvent", fn := fun _ => fun
  | [d1, d2] => { results := [.lit (.bool true)], args := [d1, d2] }
  | _ => none }
def fnExactApplyEventRow : OpenClaim := { program := "ytjneccbpkckdfaagreat", sum := "7613edd187b2c508e4227f266dca0dc36a8f3228f3e28d5929e1a853845143c3", func := "loop.example/g03002/laws.FnExactApplyEvent", spec := "fnExactApplyEvent", inPlace := ["slices.overlaps[int]"], unfollowed := true, recurses := true, apart := false }
def FnExactApplyEventSaid : Prop := fnExactApplyEventRow.holds Tryz.pinned (OpenSpec.ofChange fnExactApplyEventSpec)

/-- ITS FALSE NEIGHBOUR: 'it returns false'. Refute it at one input. -/
def fnExactApplyEventWrong : ChangeSpec := { name := "fnExactApplyEvent", fn := fun _ => fun
  | [d1, d2] => { results := [.lit (.bool false)], args := [d1, d2] }
  | _ => none }
def FnExactApplyEventWrongFalsely : Prop := fnExactApplyEventRow.holds Tryz.pinned (OpenSpec.ofChange fnExactApplyEventWrong)

/-- 'laws.FnExactRunEvents': WHATEVER THE INPUT: true; the input reads as it did. -/
def fnExactRunEventsSpec : ChangeSpec := { name := "fnExactRunEvents", fn := fun _ => fun
  | [d1, d2] => { results := [.lit (.bool true)], args := [d1, d2] }
  | _ => none }
def fnExactRunEventsRow : OpenClaim := { program := "ytjneccbpkckdfaagreat", sum := "7613edd187b2c508e4227f266dca0dc36a8f3228f3e28d5929e1a853845143c3", func := "loop.example/g03002/laws.FnExactRunEvents", spec := "fnExactRunEvents", inPlace := ["slices.overlaps[int]"], unfollowed := true, recurses := true, apart := false }
def FnExactRunEventsSaid : Prop := fnExactRunEventsRow.holds Tryz.pinned (OpenSpec.ofChange fnExactRunEventsSpec)

/-- ITS FALSE NEIGHBOUR: 'it returns false'. Refute it at one input. -/
def fnExactRunEventsWrong : ChangeSpec := { name := "fnExactRunEvents", fn := fun _ => fun
  | [d1, d2] => { results := [.lit (.bool false)], args := [d1, d2] }
  | _ => none }
def FnExactRunEventsWrongFalsely : Prop := fnExactRunEventsRow.holds Tryz.pinned (OpenSpec.ofChange fnExactRunEventsWrong)

/-- 'laws.FnExactQualityNow': WHATEVER THE INPUT: true; the input reads as it did. -/
def fnExactQualityNowSpec : ChangeSpec := { name := "fnExactQualityNow", fn := fun _ => fun
  | [d1, d2] => { results := [.lit (.bool true)], args := [d1, d2] }
  | _ => none }
def fnExactQualityNowRow : OpenClaim := { program := "ytjneccbpkckdfaagreat", sum := "7613edd187b2c508e4227f266dca0dc36a8f3228f3e28d5929e1a853845143c3", func := "loop.example/g03002/laws.FnExactQualityNow", spec := "fnExactQualityNow", unfollowed := true, recurses := true, apart := false }
def FnExactQualityNowSaid : Prop := fnExactQualityNowRow.holds Tryz.pinned (OpenSpec.ofChange fnExactQualityNowSpec)

/-- ITS FALSE NEIGHBOUR: 'it returns false'. Refute it at one input. -/
def fnExactQualityNowWrong : ChangeSpec := { name := "fnExactQualityNow", fn := fun _ => fun
  | [d1, d2] => { results := [.lit (.bool false)], args := [d1, d2] }
  | _ => none }
def FnExactQualityNowWrongFalsely : Prop := fnExactQualityNowRow.holds Tryz.pinned (OpenSpec.ofChange fnExactQualityNowWrong)

/-- 'laws.FnExactReadPage': WHATEVER THE INPUT: true; the input reads as it did. -/
def fnExactReadPageSpec : ChangeSpec := { name := "fnExactReadPage", fn := fun _ => fun
  | [d1, d2, d3] => { results := [.lit (.bool true)], args := [d1, d2, d3] }
  | _ => none }
def fnExactReadPageRow : OpenClaim := { program := "ytjneccbpkckdfaagreat", sum := "7613edd187b2c508e4227f266dca0dc36a8f3228f3e28d5929e1a853845143c3", func := "loop.example/g03002/laws.FnExactReadPage", spec := "fnExactReadPage", unfollowed := true, recurses := true, apart := false }
def FnExactReadPageSaid : Prop := fnExactReadPageRow.holds Tryz.pinned (OpenSpec.ofChange fnExactReadPageSpec)

/-- ITS FALSE NEIGHBOUR: 'it returns false'. Refute it at one input. -/
def fnExactReadPageWrong : ChangeSpec := { name := "fnExactReadPage", fn := fun _ => fun
  | [d1, d2, d3] => { results := [.lit (.bool false)], args := [d1, d2, d3] }
  | _ => none }
def FnExactReadPageWrongFalsely : Prop := fnExactReadPageRow.holds Tryz.pinned (OpenSpec.ofChange fnExactReadPageWrong)

/-- 'laws.FnDisks': WHATEVER THE INPUT: true; the input reads as it did. -/
def fnDisksSpec : ChangeSpec := { name := "fnDisks", fn := fun _ => fun
  | [d] => { results := [.lit (.bool true)], args := [d] }
  | _ => none }
def fnDisksRow : OpenClaim := { program := "ytjneccbpkckdfaagreat", sum := "7613edd187b2c508e4227f266dca0dc36a8f3228f3e28d5929e1a853845143c3", func := "loop.example/g03002/laws.FnDisks", spec := "fnDisks", unfollowed := true, recurses := true, apart := false }
def FnDisksSaid : Prop := fnDisksRow.holds Tryz.pinned (OpenSpec.ofChange fnDisksSpec)

/-- ITS FALSE NEIGHBOUR: 'it returns false'. Refute it at one input. -/
def fnDisksWrong : ChangeSpec := { name := "fnDisks", fn := fun _ => fun
  | [d] => { results := [.lit (.bool false)], args := [d] }
  | _ => none }
def FnDisksWrongFalsely : Prop := fnDisksRow.holds Tryz.pinned (OpenSpec.ofChange fnDisksWrong)

/- THE SECOND FORM. 'bulk': how many values and letters a reading holds, each counted each time it is reached (what is shared counts as often as it is met; a slice's spare places count too). A statement '..UptoSaid' is the law's where the arguments, and the package variables that the reading takes, are together of bulk at most 1048576: NARROWER than '..Said'. Prove '..Said' where nothing that the law and all that it calls make is longer than what came in: it says more and counts as full. Else prove '..UptoSaid'. A law counts once. -/
mutual
def uptoBulk {H : Type} : DataW H → Nat
  | .lit (.string bytes) => bytes.length + 1
  | .lit _ => 1
  | .nil => 1
  | .ptr d => uptoBulk d + 1
  | .slice elems spare => uptoBulkAll elems + uptoBulkAll spare + 1
  | .agg parts => uptoBulkAll parts + 1
  | .iface _ d => uptoBulk d + 1
  | .map entries => uptoBulkEntries entries + 1
  | .held _ => 1
def uptoBulkAll {H : Type} : List (DataW H) → Nat
  | [] => 0
  | d :: r => uptoBulk d + uptoBulkAll r
def uptoBulkEntries {H : Type} : List (Lit × DataW H) → Nat
  | [] => 0
  | x :: r => uptoBulkEntry x + uptoBulkEntries r
def uptoBulkEntry {H : Type} : Lit × DataW H → Nat
  | (.string bytes, d) => bytes.length + uptoBulk d + 1
  | (_, d) => uptoBulk d + 1
 end
def uptoSmall : (H : Type) → List (DataW H) → Bool := fun _ ds => decide (uptoBulkAll ds ≤ 1048576)
def OpenSpec.upto (s : _root_.Go.ChangeSpec) : _root_.Go.OpenSpec := { _root_.Go.OpenSpec.ofChange s with cond := some uptoSmall }

/-- 'laws.FnExactApplyEvent', WHERE WHAT IT READS IS OF BULK AT MOST 1048576: true; the input reads as it did. -/
def fnExactApplyEventUptoRow : OpenClaim := { program := "ytjneccbpkckdfaagreat", sum := "7613edd187b2c508e4227f266dca0dc36a8f3228f3e28d5929e1a853845143c3", func := "loop.example/g03002/laws.FnExactApplyEvent", spec := "fnExactApplyEvent", inPlace := ["slices.overlaps[int]"], unfollowed := true, recurses := true, apart := false, narrowed := true }
def FnExactApplyEventUptoSaid : Prop := fnExactApplyEventUptoRow.holds Tryz.pinned (OpenSpec.upto fnExactApplyEventSpec)

/-- 'laws.FnExactRunEvents', WHERE WHAT IT READS IS OF BULK AT MOST 1048576: true; the input reads as it did. -/
def fnExactRunEventsUptoRow : OpenClaim := { program := "ytjneccbpkckdfaagreat", sum := "7613edd187b2c508e4227f266dca0dc36a8f3228f3e28d5929e1a853845143c3", func := "loop.example/g03002/laws.FnExactRunEvents", spec := "fnExactRunEvents", inPlace := ["slices.overlaps[int]"], unfollowed := true, recurses := true, apart := false, narrowed := true }
def FnExactRunEventsUptoSaid : Prop := fnExactRunEventsUptoRow.holds Tryz.pinned (OpenSpec.upto fnExactRunEventsSpec)

/-- 'laws.FnExactQualityNow', WHERE WHAT IT READS IS OF BULK AT MOST 1048576: true; the input reads as it did. -/
def fnExactQualityNowUptoRow : OpenClaim := { program := "ytjneccbpkckdfaagreat", sum := "7613edd187b2c508e4227f266dca0dc36a8f3228f3e28d5929e1a853845143c3", func := "loop.example/g03002/laws.FnExactQualityNow", spec := "fnExactQualityNow", unfollowed := true, recurses := true, apart := false, narrowed := true }
def FnExactQualityNowUptoSaid : Prop := fnExactQualityNowUptoRow.holds Tryz.pinned (OpenSpec.upto fnExactQualityNowSpec)

/-- 'laws.FnExactReadPage', WHERE WHAT IT READS IS OF BULK AT MOST 1048576: true; the input reads as it did. -/
def fnExactReadPageUptoRow : OpenClaim := { program := "ytjneccbpkckdfaagreat", sum := "7613edd187b2c508e4227f266dca0dc36a8f3228f3e28d5929e1a853845143c3", func := "loop.example/g03002/laws.FnExactReadPage", spec := "fnExactReadPage", unfollowed := true, recurses := true, apart := false, narrowed := true }
def FnExactReadPageUptoSaid : Prop := fnExactReadPageUptoRow.holds Tryz.pinned (OpenSpec.upto fnExactReadPageSpec)

/-- 'laws.FnDisks', WHERE WHAT IT READS IS OF BULK AT MOST 1048576: true; the input reads as it did. -/
def fnDisksUptoRow : OpenClaim := { program := "ytjneccbpkckdfaagreat", sum := "7613edd187b2c508e4227f266dca0dc36a8f3228f3e28d5929e1a853845143c3", func := "loop.example/g03002/laws.FnDisks", spec := "fnDisks", unfollowed := true, recurses := true, apart := false, narrowed := true }
def FnDisksUptoSaid : Prop := fnDisksUptoRow.holds Tryz.pinned (OpenSpec.upto fnDisksSpec)

end Rows
end Go.Proofs.YtjneccbpkckdfaaGreat
