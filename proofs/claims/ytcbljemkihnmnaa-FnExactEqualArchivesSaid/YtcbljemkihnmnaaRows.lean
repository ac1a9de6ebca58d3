/-
  No cell of these rows narrows 'for every input' (looked for: loops, veiled, ifaces, maps, wideKeys, modest, calm, conditions, laid).
  DERIVED. THE GIVEN ROWS OF THIS SEAT. 7 by the template 'for every input the law returns true; each argument reads behind the call as it read before'; 0 by the template 'total and deterministic' (their statements: YtcbljemkihnmnaaTotals.lean).
  GIVEN WITH THE SEED: the statements are not yours to turn. If you find one false, say at which input.
  Laid BY PROGRAM, IN A SANDBOX (cutbox-rows.mjs): the forced cells as the released guide's own fill.sh prints them over the translation 036a55e45b3ee516… (all of the seat's roots in one cut). By AI agents, Wed Nov 11 2026. No macro, syntax, notation, axiom, sorry.
-/
import Derived.Test.YtcbljemkihnmnaaChecked
import GoSem.Claim
import GoSem.ClaimJoined
import GoSem.ClaimMapViews
import Derived.JoinedTies
import Derived.KernelRfl
namespace Go.Proofs.Ytcbljemkihnmnaa
/- THE CELL 'sum', in the pinned program and in every row, IS THE sha256 OF THE DUMP (.gsa) THAT YtcbljemkihnmnaaProg.lean LOADS. Nothing in Lean hashes anything: it is a label: what it is worth is what the hold of that sum in a sandbox is worth. -/
noncomputable def Try.pinned : Pinned := { name := "ytcbljemkihnmnaa", sum := "036a55e45b3ee516606978bb4e7a089bb6719732bccc53a2aeb74cacfc6a3a9e", checked := Try.checked }
namespace Rows
def none {H : Type} : Left H := { results := [], args := [] }

/-- 'laws.FnExactDigestAt': WHATEVER THE INPUT: true; the input reads as it did. -/
def fnExactDigestAtSpec : ChangeSpec := { name := "fnExactDigestAt", fn := fun _ => fun
  | [d1, d2] => { results := [.lit (.bool true)], args := [d1, d2] }
  | _ => none }
def fnExactDigestAtRow : OpenClaim := { program := "ytcbljemkihnmnaa", sum := "036a55e45b3ee516606978bb4e7a089bb6719732bccc53a2aeb74cacfc6a3a9e", func := "loop.example/g03002/laws.FnExactDigestAt", spec := "fnExactDigestAt", apart := false }
def FnExactDigestAtSaid : Prop := fnExactDigestAtRow.holds Try.pinned (OpenSpec.ofChange fnExactDigestAtSpec)

/-- ITS FALSE NEIGHBOUR: 'it returns false'. Refute it at one input. -/
def fnExactDigestAtWrong : ChangeSpec := { name := "fnExactDigestAt", fn := fun _ => fun
  | [d1, d2] => { results := [.lit (.bool false)], args := [d1, d2] }
  | _ => none }
def FnExactDigestAtWrongFalsely : Prop := fnExactDigestAtRow.holds Try.pinned (OpenSpec.ofChange fnExactDigestAtWrong)

/-- 'laws.FnExactExampleSite': WHATEVER THE INPUT: true; the input reads as it did. -/
def fnExactExampleSiteSpec : ChangeSpec := { name := "fnExactExampleSite", fn := fun _ => fun
  | [] => { results := [.lit (.bool true)], args := [] }
  | _ => none }
def fnExactExampleSiteRow : OpenClaim := { program := "ytcbljemkihnmnaa", sum := "036a55e45b3ee516606978bb4e7a089bb6719732bccc53a2aeb74cacfc6a3a9e", func := "loop.example/g03002/laws.FnExactExampleSite", spec := "fnExactExampleSite", apart := false }
def FnExactExampleSiteSaid : Prop := fnExactExampleSiteRow.holds Try.pinned (OpenSpec.ofChange fnExactExampleSiteSpec)

/-- ITS FALSE NEIGHBOUR: 'it returns false'. Refute it at one input. -/
def fnExactExampleSiteWrong : ChangeSpec := { name := "fnExactExampleSite", fn := fun _ => fun
  | [] => { results := [.lit (.bool false)], args := [] }
  | _ => none }
def FnExactExampleSiteWrongFalsely : Prop := fnExactExampleSiteRow.holds Try.pinned (OpenSpec.ofChange fnExactExampleSiteWrong)

/-- 'laws.FnExactCountKind': WHATEVER THE INPUT: true; the input reads as it did. -/
def fnExactCountKindSpec : ChangeSpec := { name := "fnExactCountKind", fn := fun _ => fun
  | [d1, d2] => { results := [.lit (.bool true)], args := [d1, d2] }
  | _ => none }
def fnExactCountKindRow : OpenClaim := { program := "ytcbljemkihnmnaa", sum := "036a55e45b3ee516606978bb4e7a089bb6719732bccc53a2aeb74cacfc6a3a9e", func := "loop.example/g03002/laws.FnExactCountKind", spec := "fnExactCountKind", apart := false }
def FnExactCountKindSaid : Prop := fnExactCountKindRow.holds Try.pinned (OpenSpec.ofChange fnExactCountKindSpec)

/-- ITS FALSE NEIGHBOUR: 'it returns false'. Refute it at one input. -/
def fnExactCountKindWrong : ChangeSpec := { name := "fnExactCountKind", fn := fun _ => fun
  | [d1, d2] => { results := [.lit (.bool false)], args := [d1, d2] }
  | _ => none }
def FnExactCountKindWrongFalsely : Prop := fnExactCountKindRow.holds Try.pinned (OpenSpec.ofChange fnExactCountKindWrong)

/-- 'laws.FnExactCountVisits': WHATEVER THE INPUT: true; the input reads as it did. -/
def fnExactCountVisitsSpec : ChangeSpec := { name := "fnExactCountVisits", fn := fun _ => fun
  | [d] => { results := [.lit (.bool true)], args := [d] }
  | _ => none }
def fnExactCountVisitsRow : OpenClaim := { program := "ytcbljemkihnmnaa", sum := "036a55e45b3ee516606978bb4e7a089bb6719732bccc53a2aeb74cacfc6a3a9e", func := "loop.example/g03002/laws.FnExactCountVisits", spec := "fnExactCountVisits", apart := false }
def FnExactCountVisitsSaid : Prop := fnExactCountVisitsRow.holds Try.pinned (OpenSpec.ofChange fnExactCountVisitsSpec)

/-- ITS FALSE NEIGHBOUR: 'it returns false'. Refute it at one input. -/
def fnExactCountVisitsWrong : ChangeSpec := { name := "fnExactCountVisits", fn := fun _ => fun
  | [d] => { results := [.lit (.bool false)], args := [d] }
  | _ => none }
def FnExactCountVisitsWrongFalsely : Prop := fnExactCountVisitsRow.holds Try.pinned (OpenSpec.ofChange fnExactCountVisitsWrong)

/-- 'laws.FnExactCopiesLeft': WHATEVER THE INPUT: true; the input reads as it did. -/
def fnExactCopiesLeftSpec : ChangeSpec := { name := "fnExactCopiesLeft", fn := fun _ => fun
  | [d] => { results := [.lit (.bool true)], args := [d] }
  | _ => none }
def fnExactCopiesLeftRow : OpenClaim := { program := "ytcbljemkihnmnaa", sum := "036a55e45b3ee516606978bb4e7a089bb6719732bccc53a2aeb74cacfc6a3a9e", func := "loop.example/g03002/laws.FnExactCopiesLeft", spec := "fnExactCopiesLeft", apart := false }
def FnExactCopiesLeftSaid : Prop := fnExactCopiesLeftRow.holds Try.pinned (OpenSpec.ofChange fnExactCopiesLeftSpec)

/-- ITS FALSE NEIGHBOUR: 'it returns false'. Refute it at one input. -/
def fnExactCopiesLeftWrong : ChangeSpec := { name := "fnExactCopiesLeft", fn := fun _ => fun
  | [d] => { results := [.lit (.bool false)], args := [d] }
  | _ => none }
def FnExactCopiesLeftWrongFalsely : Prop := fnExactCopiesLeftRow.holds Try.pinned (OpenSpec.ofChange fnExactCopiesLeftWrong)

/-- 'laws.FnExactIsHeld': WHATEVER THE INPUT: true; the input reads as it did. -/
def fnExactIsHeldSpec : ChangeSpec := { name := "fnExactIsHeld", fn := fun _ => fun
  | [d] => { results := [.lit (.bool true)], args := [d] }
  | _ => none }
def fnExactIsHeldRow : OpenClaim := { program := "ytcbljemkihnmnaa", sum := "036a55e45b3ee516606978bb4e7a089bb6719732bccc53a2aeb74cacfc6a3a9e", func := "loop.example/g03002/laws.FnExactIsHeld", spec := "fnExactIsHeld", unfollowed := true, recurses := true, apart := false }
def FnExactIsHeldSaid : Prop := fnExactIsHeldRow.holds Try.pinned (OpenSpec.ofChange fnExactIsHeldSpec)

/-- ITS FALSE NEIGHBOUR: 'it returns false'. Refute it at one input. -/
def fnExactIsHeldWrong : ChangeSpec := { name := "fnExactIsHeld", fn := fun _ => fun
  | [d] => { results := [.lit (.bool false)], args := [d] }
  | _ => none }
def FnExactIsHeldWrongFalsely : Prop := fnExactIsHeldRow.holds Try.pinned (OpenSpec.ofChange fnExactIsHeldWrong)

/-- 'laws.FnExactEqualArchives': WHATEVER THE INPUT: true; the input reads as it did. -/
def fnExactEqualArchivesSpec : ChangeSpec := { name := "fnExactEqualArchives", fn := fun _ => fun
  | [d1, d2] => { results := [.lit (.bool true)], args := [d1, d2] }
  | _ => none }
def fnExactEqualArchivesRow : OpenClaim := { program := "ytcbljemkihnmnaa", sum := "036a55e45b3ee516606978bb4e7a089bb6719732bccc53a2aeb74cacfc6a3a9e", func := "loop.example/g03002/laws.FnExactEqualArchives", spec := "fnExactEqualArchives", unfollowed := true, recurses := true, apart := false }
def FnExactEqualArchivesSaid : Prop := fnExactEqualArchivesRow.holds Try.pinned (OpenSpec.ofChange fnExactEqualArchivesSpec)

/-- ITS FALSE NEIGHBOUR: 'it returns false'. Refute it at one input. -/
def fnExactEqualArchivesWrong : ChangeSpec := { name := "fnExactEqualArchives", fn := fun _ => fun
  | [d1, d2] => { results := [.lit (.bool false)], args := [d1, d2] }
  | _ => none }
def FnExactEqualArchivesWrongFalsely : Prop := fnExactEqualArchivesRow.holds Try.pinned (OpenSpec.ofChange fnExactEqualArchivesWrong)

/- THE SECOND FORM. 'bulk': how many values and letters a reading holds, each counted each time it is reached (what is shared counts as often as it is met; a slice's spare places count too). A statement '..UptoSaid' is the law's where the arguments, and the package variables that the reading takes, are together of bulk at most 1048576: NARROWER than '..Said'. Prove '..Said' where nothing that the law and all that it calls make is longer than what came in: it says more and counts as full. Else prove '..UptoSaid'. A law counts once. -/
mutual
def uptoBulk {H : Type} : DataW H → Nat
  | .lit (.string bytes) => bytes.length + 1
  | .lit _ => 1
  | .nil => 1
  | .ptr d => uptoBulk d + 1
  | .slice elems spare => uptoBulkAll elems + uptoBulkAll spare + 1
  | .agg parts => uptoBulkAll parts + 1
  | .iface _ d => uptoBulk d + 1
  | .map entries => uptoBulkEntries entries + 1
  | .held _ => 1
def uptoBulkAll {H : Type} : List (DataW H) → Nat
  | [] => 0
  | d :: r => uptoBulk d + uptoBulkAll r
def uptoBulkEntries {H : Type} : List (Lit × DataW H) → Nat
  | [] => 0
  | x :: r => uptoBulkEntry x + uptoBulkEntries r
def uptoBulkEntry {H : Type} : Lit × DataW H → Nat
  | (.string bytes, d) => bytes.length + uptoBulk d + 1
  | (_, d) => uptoBulk d + 1
 end
def uptoSmall : (H : Type) → List (DataW H) → Bool := fun _ ds => decide (uptoBulkAll ds ≤ 1048576)
def OpenSpec.upto (s : _root_.Go.ChangeSpec) : _root_.Go.OpenSpec := { _root_.Go.OpenSpec.ofChange s with cond := some uptoSmall }

/-- 'laws.FnExactDigestAt', WHERE WHAT IT READS IS OF BULK AT MOST 1048576: true; the input reads as it did. -/
def fnExactDigestAtUptoRow : OpenClaim := { program := "ytcbljemkihnmnaa", sum := "036a55e45b3ee516606978bb4e7a089bb6719732bccc53a2aeb74cacfc6a3a9e", func := "loop.example/g03002/laws.FnExactDigestAt", spec := "fnExactDigestAt", apart := false, narrowed := true }
def FnExactDigestAtUptoSaid : Prop := fnExactDigestAtUptoRow.holds Try.pinned (OpenSpec.upto fnExactDigestAtSpec)

/-- 'laws.FnExactExampleSite', WHERE WHAT IT READS IS OF BULK AT MOST 1048576: true; the input reads as it did. -/
def fnExactExampleSiteUptoRow : OpenClaim := { program := "ytcbljemkihnmnaa", sum := "036a55e45b3ee516606978bb4e7a089bb6719732bccc53a2aeb74cacfc6a3a9e", func := "loop.example/g03002/laws.FnExactExampleSite", spec := "fnExactExampleSite", apart := false, narrowed := true }
def FnExactExampleSiteUptoSaid : Prop := fnExactExampleSiteUptoRow.holds Try.pinned (OpenSpec.upto fnExactExampleSiteSpec)

/-- 'laws.FnExactCountKind', WHERE WHAT IT READS IS OF BULK AT MOST 1048576: true; the input reads as it did. -/
def fnExactCountKindUptoRow : OpenClaim := { program := "ytcbljemkihnmnaa", sum := "036a55e45b3ee516606978bb4e7a089bb6719732bccc53a2aeb74cacfc6a3a9e", func := "loop.example/g03002/laws.FnExactCountKind", spec := "fnExactCountKind", apart := false, narrowed := true }
def FnExactCountKindUptoSaid : Prop := fnExactCountKindUptoRow.holds Try.pinned (OpenSpec.upto fnExactCountKindSpec)

/-- 'laws.FnExactCountVisits', WHERE WHAT IT READS IS OF BULK AT MOST 1048576: true; the input reads as it did. -/
def fnExactCountVisitsUptoRow : OpenClaim := { program := "ytcbljemkihnmnaa", sum := "036a55e45b3ee516606978bb4e7a089bb6719732bccc53a2aeb74cacfc6a3a9e", func := "loop.example/g03002/laws.FnExactCountVisits", spec := "fnExactCountVisits", apart := false, narrowed := true }
def FnExactCountVisitsUptoSaid : Prop := fnExactCountVisitsUptoRow.holds Try.pinned (OpenSpec.upto fnExactCountVisitsSpec)

/-- 'laws.FnExactCopiesLeft', WHERE WHAT IT READS IS OF BULK AT MOST 1048576: true; the input reads as it did. -/
def fnExactCopiesLeftUptoRow : OpenClaim := { program := "ytcbljemkihnmnaa", sum := "036a55e45b3ee516606978bb4e7a089bb6719732bccc53a2aeb74cacfc6a3a9e", func := "loop.example/g03002/laws.FnExactCopiesLeft", spec := "fnExactCopiesLeft", apart := false, narrowed := true }
def FnExactCopiesLeftUptoSaid : Prop := fnExactCopiesLeftUptoRow.holds Try.pinned (OpenSpec.upto fnExactCopiesLeftSpec)

/-- 'laws.FnExactIsHeld', WHERE WHAT IT READS IS OF BULK AT MOST 1048576: true; the input reads as it did. -/
def fnExactIsHeldUptoRow : OpenClaim := { program := "ytcbljemkihnmnaa", sum := "036a55e45b3ee516606978bb4e7a089bb6719732bccc53a2aeb74cacfc6a3a9e", func := "loop.example/g03002/laws.FnExactIsHeld", spec := "fnExactIsHeld", unfollowed := true, recurses := true, apart := false, narrowed := true }
def FnExactIsHeldUptoSaid : Prop := fnExactIsHeldUptoRow.holds Try.pinned (OpenSpec.upto fnExactIsHeldSpec)

/-- 'laws.FnExactEqualArchives', WHERE WHAT IT READS IS OF BULK AT MOST 1048576: true; the input reads as it did. -/
def fnExactEqualArchivesUptoRow : OpenClaim := { program := "ytcbljemkihnmnaa", sum := "036a55e45b3ee516606978bb4e7a089bb6719732bccc53a2aeb74cacfc6a3a9e", func := "loop.example/g03002/laws.FnExactEqualArchives", spec := "fnExactEqualArchives", unfollowed := true, recurses := true, apart := false, narrowed := true }
def FnExactEqualArchivesUptoSaid : Prop := fnExactEqualArchivesUptoRow.holds Try.pinned (OpenSpec.upto fnExactEqualArchivesSpec)

end Rows
end Go.Proofs.Ytcbljemkihnmnaa
