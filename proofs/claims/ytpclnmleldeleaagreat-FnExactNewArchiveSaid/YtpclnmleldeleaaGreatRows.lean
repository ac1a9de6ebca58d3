/-
  No cell of these rows narrows 'for every input' (looked for: loops, veiled, ifaces, maps, wideKeys, modest, calm, conditions, laid).
  DERIVED. THE GIVEN ROWS OF THIS SEAT. 8 by the template 'for every input the law returns true; each argument reads behind the call as it read before'; 0 by the template 'total and deterministic' (their statements: YtpclnmleldeleaaGreatTotals.lean).
  GIVEN WITH THE SEED: the statements are not yours to turn. If you find one false, say at which input.
  Laid BY PROGRAM, IN A SANDBOX (cutbox-rows.mjs): the forced cells as the released guide's own fill.sh prints them over the translation 0f7818fc9a97e37e… (all of the seat's roots in one cut). By AI agents, Wed Nov 11 2026. No macro, syntax, notation, axiom, sorry.
-/
import Derived.Test.YtpclnmleldeleaaGreatChecked
import GoSem.Claim
import GoSem.ClaimJoined
import GoSem.ClaimMapViews
import Derived.JoinedTies
import Derived.KernelRfl
namespace Go.Proofs.YtpclnmleldeleaaGreat
/- THE CELL 'sum', in the pinned program and in every row, IS THE sha256 OF THE DUMP (.gsa) THAT YtpclnmleldeleaaGreatProg.lean LOADS. Nothing in Lean hashes anything: it is a label: what it is worth is what the hold of that sum in a sandbox is worth. -/
noncomputable def Tryz.pinned : Pinned := { name := "ytpclnmleldeleaagreat", sum := "0f7818fc9a97e37ef0c1e9a1bccbc46194d8c1d1648a9c711ee730dda30d302d", checked := Tryz.checked }
namespace Rows
def none {H : Type} : Left H := { results := [], args := [] }

/-- 'laws.FnExactStepChange': WHATEVER THE INPUT: true; the input reads as it did. -/
def fnExactStepChangeSpec : ChangeSpec := { name := "fnExactStepChange", fn := fun _ => fun
  | [d1, d2] => { results := [.lit (.bool true)], args := [d1, d2] }
  | _ => none }
def fnExactStepChangeRow : OpenClaim := { program := "ytpclnmleldeleaagreat", sum := "0f7818fc9a97e37ef0c1e9a1bccbc46194d8c1d1648a9c711ee730dda30d302d", func := "loop.example/g03002/laws.FnExactStepChange", spec := "fnExactStepChange", unfollowed := true, recurses := true, apart := false }
def FnExactStepChangeSaid : Prop := fnExactStepChangeRow.holds Tryz.pinned (OpenSpec.ofChange fnExactStepChangeSpec)

/-- ITS FALSE NEIGHBOUR: 'it returns false'. Refute it at one input. -/
def fnExactStepChangeWrong : ChangeSpec := { name := "fnExactStepChange", fn := fun _ => fun
  | [d1, d2] => { results := [.lit (.bool false)], args := [d1, d2] }
  | _ => none }
def FnExactStepChangeWrongFalsely : Prop := fnExactStepChangeRow.holds Tryz.pinned (OpenSpec.ofChange fnExactStepChangeWrong)

/-- 'laws.FnExactStepCrash': WHATEVER THE INPUT: true; the input reads as it did. -/
def fnExactStepCrashSpec : ChangeSpec := { name := "fnExactStepCrash", fn := fun _ => fun
  | [d] => { results := [.lit (.bool true)], args := [d] }
  | _ => none }
def fnExactStepCrashRow : OpenClaim := { program := "ytpclnmleldeleaagreat", sum := "0f7818fc9a97e37ef0c1e9a1bccbc46194d8c1d1648a9c711ee730dda30d302d", func := "loop.example/g03002/laws.FnExactStepCrash", spec := "fnExactStepCrash", unfollowed := true, recurses := true, apart := false }
def FnExactStepCrashSaid : Prop := fnExactStepCrashRow.holds Tryz.pinned (OpenSpec.ofChange fnExactStepCrashSpec)

/-- ITS FALSE NEIGHBOUR: 'it returns false'. Refute it at one input. -/
def fnExactStepCrashWrong : ChangeSpec := { name := "fnExactStepCrash", fn := fun _ => fun
  | [d] => { results := [.lit (.bool false)], args := [d] }
  | _ => none }
def FnExactStepCrashWrongFalsely : Prop := fnExactStepCrashRow.holds Tryz.pinned (OpenSpec.ofChange fnExactStepCrashWrong)

/-- 'laws.FnExactStepVisit': WHATEVER THE INPUT: true; the input reads as it did. -/
def fnExactStepVisitSpec : ChangeSpec := { name := "fnExactStepVisit", fn := fun _ => fun
  | [d1, d2, d3] => { results := [.lit (.bool true)], args := [d1, d2, d3] }
  | _ => none }
def fnExactStepVisitRow : OpenClaim := { program := "ytpclnmleldeleaagreat", sum := "0f7818fc9a97e37ef0c1e9a1bccbc46194d8c1d1648a9c711ee730dda30d302d", func := "loop.example/g03002/laws.FnExactStepVisit", spec := "fnExactStepVisit", unfollowed := true, recurses := true, apart := false }
def FnExactStepVisitSaid : Prop := fnExactStepVisitRow.holds Tryz.pinned (OpenSpec.ofChange fnExactStepVisitSpec)

/-- ITS FALSE NEIGHBOUR: 'it returns false'. Refute it at one input. -/
def fnExactStepVisitWrong : ChangeSpec := { name := "fnExactStepVisit", fn := fun _ => fun
  | [d1, d2, d3] => { results := [.lit (.bool false)], args := [d1, d2, d3] }
  | _ => none }
def FnExactStepVisitWrongFalsely : Prop := fnExactStepVisitRow.holds Tryz.pinned (OpenSpec.ofChange fnExactStepVisitWrong)

/-- 'laws.FnExactSpanKept': WHATEVER THE INPUT: true; the input reads as it did. -/
def fnExactSpanKeptSpec : ChangeSpec := { name := "fnExactSpanKept", fn := fun _ => fun
  | [d1, d2] => { results := [.lit (.bool true)], args := [d1, d2] }
  | _ => none }
def fnExactSpanKeptRow : OpenClaim := { program := "ytpclnmleldeleaagreat", sum := "0f7818fc9a97e37ef0c1e9a1bccbc46194d8c1d1648a9c711ee730dda30d302d", func := "loop.example/g03002/laws.FnExactSpanKept", spec := "fnExactSpanKept", unfollowed := true, recurses := true, apart := false }
def FnExactSpanKeptSaid : Prop := fnExactSpanKeptRow.holds Tryz.pinned (OpenSpec.ofChange fnExactSpanKeptSpec)

/-- ITS FALSE NEIGHBOUR: 'it returns false'. Refute it at one input. -/
def fnExactSpanKeptWrong : ChangeSpec := { name := "fnExactSpanKept", fn := fun _ => fun
  | [d1, d2] => { results := [.lit (.bool false)], args := [d1, d2] }
  | _ => none }
def FnExactSpanKeptWrongFalsely : Prop := fnExactSpanKeptRow.holds Tryz.pinned (OpenSpec.ofChange fnExactSpanKeptWrong)

/-- 'laws.FnExactBestTick': WHATEVER THE INPUT: true; the input reads as it did. -/
def fnExactBestTickSpec : ChangeSpec := { name := "fnExactBestTick", fn := fun _ => fun
  | [d1, d2] => { results := [.lit (.bool true)], args := [d1, d2] }
  | _ => none }
def fnExactBestTickRow : OpenClaim := { program := "ytpclnmleldeleaagreat", sum := "0f7818fc9a97e37ef0c1e9a1bccbc46194d8c1d1648a9c711ee730dda30d302d", func := "loop.example/g03002/laws.FnExactBestTick", spec := "fnExactBestTick", unfollowed := true, recurses := true, apart := false }
def FnExactBestTickSaid : Prop := fnExactBestTickRow.holds Tryz.pinned (OpenSpec.ofChange fnExactBestTickSpec)

/-- ITS FALSE NEIGHBOUR: 'it returns false'. Refute it at one input. -/
def fnExactBestTickWrong : ChangeSpec := { name := "fnExactBestTick", fn := fun _ => fun
  | [d1, d2] => { results := [.lit (.bool false)], args := [d1, d2] }
  | _ => none }
def FnExactBestTickWrongFalsely : Prop := fnExactBestTickRow.holds Tryz.pinned (OpenSpec.ofChange fnExactBestTickWrong)

/-- 'laws.FnExactIsArchive': WHATEVER THE INPUT: true; the input reads as it did. -/
def fnExactIsArchiveSpec : ChangeSpec := { name := "fnExactIsArchive", fn := fun _ => fun
  | [d] => { results := [.lit (.bool true)], args := [d] }
  | _ => none }
def fnExactIsArchiveRow : OpenClaim := { program := "ytpclnmleldeleaagreat", sum := "0f7818fc9a97e37ef0c1e9a1bccbc46194d8c1d1648a9c711ee730dda30d302d", func := "loop.example/g03002/laws.FnExactIsArchive", spec := "fnExactIsArchive", unfollowed := true, recurses := true, apart := false }
def FnExactIsArchiveSaid : Prop := fnExactIsArchiveRow.holds Tryz.pinned (OpenSpec.ofChange fnExactIsArchiveSpec)

/-- ITS FALSE NEIGHBOUR: 'it returns false'. Refute it at one input. -/
def fnExactIsArchiveWrong : ChangeSpec := { name := "fnExactIsArchive", fn := fun _ => fun
  | [d] => { results := [.lit (.bool false)], args := [d] }
  | _ => none }
def FnExactIsArchiveWrongFalsely : Prop := fnExactIsArchiveRow.holds Tryz.pinned (OpenSpec.ofChange fnExactIsArchiveWrong)

/-- 'laws.FnExactHistoryOf': WHATEVER THE INPUT: true; the input reads as it did. -/
def fnExactHistoryOfSpec : ChangeSpec := { name := "fnExactHistoryOf", fn := fun _ => fun
  | [d1, d2] => { results := [.lit (.bool true)], args := [d1, d2] }
  | _ => none }
def fnExactHistoryOfRow : OpenClaim := { program := "ytpclnmleldeleaagreat", sum := "0f7818fc9a97e37ef0c1e9a1bccbc46194d8c1d1648a9c711ee730dda30d302d", func := "loop.example/g03002/laws.FnExactHistoryOf", spec := "fnExactHistoryOf", unfollowed := true, recurses := true, apart := false }
def FnExactHistoryOfSaid : Prop := fnExactHistoryOfRow.holds Tryz.pinned (OpenSpec.ofChange fnExactHistoryOfSpec)

/-- ITS FALSE NEIGHBOUR: 'it returns false'. Refute it at one input. -/
def fnExactHistoryOfWrong : ChangeSpec := { name := "fnExactHistoryOf", fn := fun _ => fun
  | [d1, d2] => { results := [.lit (.bool false)], args := [d1, d2] }
  | _ => none }
def FnExactHistoryOfWrongFalsely : Prop := fnExactHistoryOfRow.holds Tryz.pinned (OpenSpec.ofChange fnExactHistoryOfWrong)

/-- 'laws.FnExactNewArchive': WHATEVER THE INPUT: true; the input reads as it did. -/
def fnExactNewArchiveSpec : ChangeSpec := { name := "fnExactNewArchive", fn := fun _ => fun
  | [d1, d2, d3] => { results := [.lit (.bool true)], args := [d1, d2, d3] }
  | _ => none }
def fnExactNewArchiveRow : OpenClaim := { program := "ytpclnmleldeleaagreat", sum := "0f7818fc9a97e37ef0c1e9a1bccbc46194d8c1d1648a9c711ee730dda30d302d", func := "loop.example/g03002/laws.FnExactNewArchive", spec := "fnExactNewArchive", unfollowed := true, recurses := true, apart := false }
def FnExactNewArchiveSaid : Prop := fnExactNewArchiveRow.holds Tryz.pinned (OpenSpec.ofChange fnExactNewArchiveSpec)

/-- ITS FALSE NEIGHBOUR: 'it returns false'. Refute it at one input. -/
def fnExactNewArchiveWrong : ChangeSpec := { name := "fnExactNewArchive", fn := fun _ => fun
  | [d1, d2, d3] => { results := [.lit (.bool false)], args := [d1, d2, d3] }
  | _ => none }
def FnExactNewArchiveWrongFalsely : Prop := fnExactNewArchiveRow.holds Tryz.pinned (OpenSpec.ofChange fnExactNewArchiveWrong)

/- THE SECOND FORM. 'bulk': how many values and letters a reading holds, each counted each time it is reached (what is shared counts as often as it is met; a slice's spare places count too). A statement '..UptoSaid' is the law's where the arguments, and the package variables that the reading takes, are together of bulk at most 1048576: NARROWER than '..Said'. Prove '..Said' where nothing that the law and all that it calls make is longer than what came in: it says more and counts as full. Else prove '..UptoSaid'. A law counts once. -/
mutual
def uptoBulk {H : Type} : DataW H → Nat
  | .lit (.string bytes) => bytes.length + 1
  | .lit _ => 1
  | .nil => 1
  | .ptr d => uptoBulk d + 1
  | .slice elems spare => uptoBulkAll elems + uptoBulkAll spare + 1
  | .agg parts => uptoBulkAll parts + 1
  | .iface _ d => uptoBulk d + 1
  | .map entries => uptoBulkEntries entries + 1
  | .held _ => 1
def uptoBulkAll {H : Type} : List (DataW H) → Nat
  | [] => 0
  | d :: r => uptoBulk d + uptoBulkAll r
def uptoBulkEntries {H : Type} : List (Lit × DataW H) → Nat
  | [] => 0
  | x :: r => uptoBulkEntry x + uptoBulkEntries r
def uptoBulkEntry {H : Type} : Lit × DataW H → Nat
  | (.string bytes, d) => bytes.length + uptoBulk d + 1
  | (_, d) => uptoBulk d + 1
 end
def uptoSmall : (H : Type) → List (DataW H) → Bool := fun _ ds => decide (uptoBulkAll ds ≤ 1048576)
def OpenSpec.upto (s : _root_.Go.ChangeSpec) : _root_.Go.OpenSpec := { _root_.Go.OpenSpec.ofChange s with cond := some uptoSmall }

/-- 'laws.FnExactStepChange', WHERE WHAT IT READS IS OF BULK AT MOST 1048576: true; the input reads as it did. -/
def fnExactStepChangeUptoRow : OpenClaim := { program := "ytpclnmleldeleaagreat", sum := "0f7818fc9a97e37ef0c1e9a1bccbc46194d8c1d1648a9c711ee730dda30d302d", func := "loop.example/g03002/laws.FnExactStepChange", spec := "fnExactStepChange", unfollowed := true, recurses := true, apart := false, narrowed := true }
def FnExactStepChangeUptoSaid : Prop := fnExactStepChangeUptoRow.holds Tryz.pinned (OpenSpec.upto fnExactStepChangeSpec)

/-- 'laws.FnExactStepCrash', WHERE WHAT IT READS IS OF BULK AT MOST 1048576: true; the input reads as it did. -/
def fnExactStepCrashUptoRow : OpenClaim := { program := "ytpclnmleldeleaagreat", sum := "0f7818fc9a97e37ef0c1e9a1bccbc46194d8c1d1648a9c711ee730dda30d302d", func := "loop.example/g03002/laws.FnExactStepCrash", spec := "fnExactStepCrash", unfollowed := true, recurses := true, apart := false, narrowed := true }
def FnExactStepCrashUptoSaid : Prop := fnExactStepCrashUptoRow.holds Tryz.pinned (OpenSpec.upto fnExactStepCrashSpec)

/-- 'laws.FnExactStepVisit', WHERE WHAT IT READS IS OF BULK AT MOST 1048576: true; the input reads as it did. -/
def fnExactStepVisitUptoRow : OpenClaim := { program := "ytpclnmleldeleaagreat", sum := "0f7818fc9a97e37ef0c1e9a1bccbc46194d8c1d1648a9c711ee730dda30d302d", func := "loop.example/g03002/laws.FnExactStepVisit", spec := "fnExactStepVisit", unfollowed := true, recurses := true, apart := false, narrowed := true }
def FnExactStepVisitUptoSaid : Prop := fnExactStepVisitUptoRow.holds Tryz.pinned (OpenSpec.upto fnExactStepVisitSpec)

/-- 'laws.FnExactSpanKept', WHERE WHAT IT READS IS OF BULK AT MOST 1048576: true; the input reads as it did. -/
def fnExactSpanKeptUptoRow : OpenClaim := { program := "ytpclnmleldeleaagreat", sum := "0f7818fc9a97e37ef0c1e9a1bccbc46194d8c1d1648a9c711ee730dda30d302d", func := "loop.example/g03002/laws.FnExactSpanKept", spec := "fnExactSpanKept", unfollowed := true, recurses := true, apart := false, narrowed := true }
def FnExactSpanKeptUptoSaid : Prop := fnExactSpanKeptUptoRow.holds Tryz.pinned (OpenSpec.upto fnExactSpanKeptSpec)

/-- 'laws.FnExactBestTick', WHERE WHAT IT READS IS OF BULK AT MOST 1048576: true; the input reads as it did. -/
def fnExactBestTickUptoRow : OpenClaim := { program := "ytpclnmleldeleaagreat", sum := "0f7818fc9a97e37ef0c1e9a1bccbc46194d8c1d1648a9c711ee730dda30d302d", func := "loop.example/g03002/laws.FnExactBestTick", spec := "fnExactBestTick", unfollowed := true, recurses := true, apart := false, narrowed := true }
def FnExactBestTickUptoSaid : Prop := fnExactBestTickUptoRow.holds Tryz.pinned (OpenSpec.upto fnExactBestTickSpec)

/-- 'laws.FnExactIsArchive', WHERE WHAT IT READS IS OF BULK AT MOST 1048576: true; the input reads as it did. -/
def fnExactIsArchiveUptoRow : OpenClaim := { program := "ytpclnmleldeleaagreat", sum := "0f7818fc9a97e37ef0c1e9a1bccbc46194d8c1d1648a9c711ee730dda30d302d", func := "loop.example/g03002/laws.FnExactIsArchive", spec := "fnExactIsArchive", unfollowed := true, recurses := true, apart := false, narrowed := true }
def FnExactIsArchiveUptoSaid : Prop := fnExactIsArchiveUptoRow.holds Tryz.pinned (OpenSpec.upto fnExactIsArchiveSpec)

/-- 'laws.FnExactHistoryOf', WHERE WHAT IT READS IS OF BULK AT MOST 1048576: true; the input reads as it did. -/
def fnExactHistoryOfUptoRow : OpenClaim := { program := "ytpclnmleldeleaagreat", sum := "0f7818fc9a97e37ef0c1e9a1bccbc46194d8c1d1648a9c711ee730dda30d302d", func := "loop.example/g03002/laws.FnExactHistoryOf", spec := "fnExactHistoryOf", unfollowed := true, recurses := true, apart := false, narrowed := true }
def FnExactHistoryOfUptoSaid : Prop := fnExactHistoryOfUptoRow.holds Tryz.pinned (OpenSpec.upto fnExactHistoryOfSpec)

/-- 'laws.FnExactNewArchive', WHERE WHAT IT READS IS OF BULK AT MOST 1048576: true; the input reads as it did. -/
def fnExactNewArchiveUptoRow : OpenClaim := { program := "ytpclnmleldeleaagreat", sum := "0f7818fc9a97e37ef0c1e9a1bccbc46194d8c1d1648a9c711ee730dda30d302d", func := "loop.example/g03002/laws.FnExactNewArchive", spec := "fnExactNewArchive", unfollowed := true, recurses := true, apart := false, narrowed := true }
def FnExactNewArchiveUptoSaid : Prop := fnExactNewArchiveUptoRow.holds Tryz.pinned (OpenSpec.upto fnExactNewArchiveSpec)

end Rows
end Go.Proofs.YtpclnmleldeleaaGreat
