/-
  No cell of these rows narrows 'for every input' (looked for: loops, veiled, ifaces, maps, wideKeys, modest, calm, conditions, laid).
  DERIVED. THE GIVEN ROWS OF THIS SEAT. 5 by the template 'for every input the law returns true; each argument reads behind the call as it read before'; 0 by the template 'total and deterministic' (their statements: YtocmljacjkhciaaTotals.lean).
  GIVEN WITH THE SEED: the statements are not yours to turn. If you find one false, say at which input.
  Laid BY PROGRAM, IN A SANDBOX (cutbox-rows.mjs): the forced cells as the released guide's own fill.sh prints them over the translation c75ce5ff01fd6be6… (all of the seat's roots in one cut). By AI agents, Wed Nov 11 2026. No macro, syntax, notation, axiom, sorry.
-/
import Derived.Test.YtocmljacjkhciaaChecked
import GoSem.Claim
import GoSem.ClaimJoined
import GoSem.ClaimMapViews
import Derived.JoinedTies
import Derived.KernelRfl
namespace Go.Proofs.Ytocmljacjkhciaa
/- THE CELL 'sum', in the pinned program and in every row, IS THE sha256 OF THE DUMP (.gsa) THAT YtocmljacjkhciaaProg.lean LOADS. Nothing in Lean hashes anything: it is a label: what it is worth is what the hold of that sum in a sandbox is worth. -/
noncomputable def Try.pinned : Pinned := { name := "ytocmljacjkhciaa", sum := "c75ce5ff01fd6be62499fe7ee35db21e6a33ad775f50f609d57961241dbaa734", checked := Try.checked }
namespace Rows
def none {H : Type} : Left H := { results := [], args := [] }

/-- 'laws.FnExactEventName': WHATEVER THE INPUT: true; the input reads as it did. -/
def fnExactEventNameSpec : ChangeSpec := { name := "fnExactEventName", fn := fun _ => fun
  | [d] => { results := [.lit (.bool true)], args := [d] }
  | _ => none }
def fnExactEventNameRow : OpenClaim := { program := "ytocmljacjkhciaa", sum := "c75ce5ff01fd6be62499fe7ee35db21e6a33ad775f50f609d57961241dbaa734", func := "loop.example/g03002/laws.FnExactEventName", spec := "fnExactEventName", apart := false }
def FnExactEventNameSaid : Prop := fnExactEventNameRow.holds Try.pinned (OpenSpec.ofChange fnExactEventNameSpec)

/-- ITS FALSE NEIGHBOUR: 'it returns false'. Refute it at one input. -/
def fnExactEventNameWrong : ChangeSpec := { name := "fnExactEventName", fn := fun _ => fun
  | [d] => { results := [.lit (.bool false)], args := [d] }
  | _ => none }
def FnExactEventNameWrongFalsely : Prop := fnExactEventNameRow.holds Try.pinned (OpenSpec.ofChange fnExactEventNameWrong)

/-- 'laws.FnExactDigestAt': WHATEVER THE INPUT: true; the input reads as it did. -/
def fnExactDigestAtSpec : ChangeSpec := { name := "fnExactDigestAt", fn := fun _ => fun
  | [d1, d2] => { results := [.lit (.bool true)], args := [d1, d2] }
  | _ => none }
def fnExactDigestAtRow : OpenClaim := { program := "ytocmljacjkhciaa", sum := "c75ce5ff01fd6be62499fe7ee35db21e6a33ad775f50f609d57961241dbaa734", func := "loop.example/g03002/laws.FnExactDigestAt", spec := "fnExactDigestAt", apart := false }
def FnExactDigestAtSaid : Prop := fnExactDigestAtRow.holds Try.pinned (OpenSpec.ofChange fnExactDigestAtSpec)

/-- ITS FALSE NEIGHBOUR: 'it returns false'. Refute it at one input. -/
def fnExactDigestAtWrong : ChangeSpec := { name := "fnExactDigestAt", fn := fun _ => fun
  | [d1, d2] => { results := [.lit (.bool false)], args := [d1, d2] }
  | _ => none }
def FnExactDigestAtWrongFalsely : Prop := fnExactDigestAtRow.holds Try.pinned (OpenSpec.ofChange fnExactDigestAtWrong)

/-- 'laws.FnExactExampleScript': WHATEVER THE INPUT: true; the input reads as it did. -/
def fnExactExampleScriptSpec : ChangeSpec := { name := "fnExactExampleScript", fn := fun _ => fun
  | [] => { results := [.lit (.bool true)], args := [] }
  | _ => none }
def fnExactExampleScriptRow : OpenClaim := { program := "ytocmljacjkhciaa", sum := "c75ce5ff01fd6be62499fe7ee35db21e6a33ad775f50f609d57961241dbaa734", func := "loop.example/g03002/laws.FnExactExampleScript", spec := "fnExactExampleScript", apart := false }
def FnExactExampleScriptSaid : Prop := fnExactExampleScriptRow.holds Try.pinned (OpenSpec.ofChange fnExactExampleScriptSpec)

/-- ITS FALSE NEIGHBOUR: 'it returns false'. Refute it at one input. -/
def fnExactExampleScriptWrong : ChangeSpec := { name := "fnExactExampleScript", fn := fun _ => fun
  | [] => { results := [.lit (.bool false)], args := [] }
  | _ => none }
def FnExactExampleScriptWrongFalsely : Prop := fnExactExampleScriptRow.holds Try.pinned (OpenSpec.ofChange fnExactExampleScriptWrong)

/-- 'laws.FnExactExampleSite': WHATEVER THE INPUT: true; the input reads as it did. -/
def fnExactExampleSiteSpec : ChangeSpec := { name := "fnExactExampleSite", fn := fun _ => fun
  | [] => { results := [.lit (.bool true)], args := [] }
  | _ => none }
def fnExactExampleSiteRow : OpenClaim := { program := "ytocmljacjkhciaa", sum := "c75ce5ff01fd6be62499fe7ee35db21e6a33ad775f50f609d57961241dbaa734", func := "loop.example/g03002/laws.FnExactExampleSite", spec := "fnExactExampleSite", apart := false }
def FnExactExampleSiteSaid : Prop := fnExactExampleSiteRow.holds Try.pinned (OpenSpec.ofChange fnExactExampleSiteSpec)

/-- ITS FALSE NEIGHBOUR: 'it returns false'. Refute it at one input. -/
def fnExactExampleSiteWrong : ChangeSpec := { name := "fnExactExampleSite", fn := fun _ => fun
  | [] => { results := [.lit (.bool false)], args := [] }
  | _ => none }
def FnExactExampleSiteWrongFalsely : Prop := fnExactExampleSiteRow.holds Try.pinned (OpenSpec.ofChange fnExactExampleSiteWrong)

/-- 'laws.FnExactCountKind': WHATEVER THE INPUT: true; the input reads as it did. -/
def fnExactCountKindSpec : ChangeSpec := { name := "fnExactCountKind", fn := fun _ => fun
  | [d1, d2] => { results := [.lit (.bool true)], args := [d1, d2] }
  | _ => none }
def fnExactCountKindRow : OpenClaim := { program := "ytocmljacjkhciaa", sum := "c75ce5ff01fd6be62499fe7ee35db21e6a33ad775f50f609d57961241dbaa734", func := "loop.example/g03002/laws.FnExactCountKind", spec := "fnExactCountKind", apart := false }
def FnExactCountKindSaid : Prop := fnExactCountKindRow.holds Try.pinned (OpenSpec.ofChange fnExactCountKindSpec)

/-- ITS FALSE NEIGHBOUR: 'it returns false'. Refute it at one input. -/
def fnExactCountKindWrong : ChangeSpec := { name := "fnExactCountKind", fn := fun _ => fun
  | [d1, d2] => { results := [.lit (.bool false)], args := [d1, d2] }
  | _ => none }
def FnExactCountKindWrongFalsely : Prop := fnExactCountKindRow.holds Try.pinned (OpenSpec.ofChange fnExactCountKindWrong)

/- THE SECOND FORM. 'bulk': how many values and letters a reading holds, each counted each time it is reached (what is shared counts as often as it is met; a slice's spare places count too). A statement '..UptoSaid' is the law's where the arguments, and the package variables that the reading takes, are together of bulk at most 1048576: NARROWER than '..Said'. Prove '..Said' where nothing that the law and all that it calls make is longer than what came in: it says more and counts as full. Else prove '..UptoSaid'. A law counts once. -/
mutual
def uptoBulk {H : Type} : DataW H → Nat
  | .lit (.string bytes) => bytes.length + 1
  | .lit _ => 1
  | .nil => 1
  | .ptr d => uptoBulk d + 1
  | .slice elems spare => uptoBulkAll elems + uptoBulkAll spare + 1
  | .agg parts => uptoBulkAll parts + 1
  | .iface _ d => uptoBulk d + 1
  | .map entries => uptoBulkEntries entries + 1
  | .held _ => 1
def uptoBulkAll {H : Type} : List (DataW H) → Nat
  | [] => 0
  | d :: r => uptoBulk d + uptoBulkAll r
def uptoBulkEntries {H : Type} : List (Lit × DataW H) → Nat
  | [] => 0
  | x :: r => uptoBulkEntry x + uptoBulkEntries r
def uptoBulkEntry {H : Type} : Lit × DataW H → Nat
  | (.string bytes, d) => bytes.length + uptoBulk d + 1
  | (_, d) => uptoBulk d + 1
 end
def uptoSmall : (H : Type) → List (DataW H) → Bool := fun _ ds => decide (uptoBulkAll ds ≤ 1048576)
def OpenSpec.upto (s : _root_.Go.ChangeSpec) : _root_.Go.OpenSpec := { _root_.Go.OpenSpec.ofChange s with cond := some uptoSmall }

/-- 'laws.FnExactEventName', WHERE WHAT IT READS IS OF BULK AT MOST 1048576: true; the input reads as it did. -/
def fnExactEventNameUptoRow : OpenClaim := { program := "ytocmljacjkhciaa", sum := "c75ce5ff01fd6be62499fe7ee35db21e6a33ad775f50f609d57961241dbaa734", func := "loop.example/g03002/laws.FnExactEventName", spec := "fnExactEventName", apart := false, narrowed := true }
def FnExactEventNameUptoSaid : Prop := fnExactEventNameUptoRow.holds Try.pinned (OpenSpec.upto fnExactEventNameSpec)

/-- 'laws.FnExactDigestAt', WHERE WHAT IT READS IS OF BULK AT MOST 1048576: true; the input reads as it did. -/
def fnExactDigestAtUptoRow : OpenClaim := { program := "ytocmljacjkhciaa", sum := "c75ce5ff01fd6be62499fe7ee35db21e6a33ad775f50f609d57961241dbaa734", func := "loop.example/g03002/laws.FnExactDigestAt", spec := "fnExactDigestAt", apart := false, narrowed := true }
def FnExactDigestAtUptoSaid : Prop := fnExactDigestAtUptoRow.holds Try.pinned (OpenSpec.upto fnExactDigestAtSpec)

/-- 'laws.FnExactExampleScript', WHERE WHAT IT READS IS OF BULK AT MOST 1048576: true; the input reads as it did. -/
def fnExactExampleScriptUptoRow : OpenClaim := { program := "ytocmljacjkhciaa", sum := "c75ce5ff01fd6be62499fe7ee35db21e6a33ad775f50f609d57961241dbaa734", func := "loop.example/g03002/laws.FnExactExampleScript", spec := "fnExactExampleScript", apart := false, narrowed := true }
def FnExactExampleScriptUptoSaid : Prop := fnExactExampleScriptUptoRow.holds Try.pinned (OpenSpec.upto fnExactExampleScriptSpec)

/-- 'laws.FnExactExampleSite', WHERE WHAT IT READS IS OF BULK AT MOST 1048576: true; the input reads as it did. -/
def fnExactExampleSiteUptoRow : OpenClaim := { program := "ytocmljacjkhciaa", sum := "c75ce5ff01fd6be62499fe7ee35db21e6a33ad775f50f609d57961241dbaa734", func := "loop.example/g03002/laws.FnExactExampleSite", spec := "fnExactExampleSite", apart := false, narrowed := true }
def FnExactExampleSiteUptoSaid : Prop := fnExactExampleSiteUptoRow.holds Try.pinned (OpenSpec.upto fnExactExampleSiteSpec)

/-- 'laws.FnExactCountKind', WHERE WHAT IT READS IS OF BULK AT MOST 1048576: true; the input reads as it did. -/
def fnExactCountKindUptoRow : OpenClaim := { program := "ytocmljacjkhciaa", sum := "c75ce5ff01fd6be62499fe7ee35db21e6a33ad775f50f609d57961241dbaa734", func := "loop.example/g03002/laws.FnExactCountKind", spec := "fnExactCountKind", apart := false, narrowed := true }
def FnExactCountKindUptoSaid : Prop := fnExactCountKindUptoRow.holds Try.pinned (OpenSpec.upto fnExactCountKindSpec)

end Rows
end Go.Proofs.Ytocmljacjkhciaa
