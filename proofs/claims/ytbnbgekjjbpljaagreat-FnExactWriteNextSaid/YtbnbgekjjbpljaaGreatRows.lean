/-
  No cell of these rows narrows 'for every input' (looked for: loops, veiled, ifaces, maps, wideKeys, modest, calm, conditions, laid).
  DERIVED. THE GIVEN ROWS OF THIS SEAT. 10 by the template 'for every input the law returns true; each argument reads behind the call as it read before'; 0 by the template 'total and deterministic' (their statements: YtbnbgekjjbpljaaGreatTotals.lean).
  GIVEN WITH THE SEED: the statements are not yours to turn. If you find one false, say at which input.
  Laid BY PROGRAM, IN A SANDBOX (cutbox-rows.mjs): the forced cells as the released guide's own fill.sh prints them over the translation ce97361c4db836d9… (all of the seat's roots in one cut). By AI agents, Wed Nov 11 2026. No macro, syntax, notation, axiom, sorry.
-/
import Derived.Test.YtbnbgekjjbpljaaGreatChecked
import GoSem.Claim
import GoSem.ClaimJoined
import GoSem.ClaimMapViews
import Derived.JoinedTies
import Derived.KernelRfl
namespace Go.Proofs.YtbnbgekjjbpljaaGreat
/- THE CELL 'sum', in the pinned program and in every row, IS THE sha256 OF THE DUMP (.gsa) THAT YtbnbgekjjbpljaaGreatProg.lean LOADS. Nothing in Lean hashes anything: it is a label: what it is worth is what the hold of that sum in a sandbox is worth. -/
noncomputable def Tryz.pinned : Pinned := { name := "ytbnbgekjjbpljaagreat", sum := "ce97361c4db836d92603db076191f0798707c336bfba7934410f24a91e9bc0f7", checked := Tryz.checked }
namespace Rows
def none {H : Type} : Left H := { results := [], args := [] }

/-- 'laws.FnExactIsDisk': WHATEVER THE INPUT: true; the input reads as it did. -/
def fnExactIsDiskSpec : ChangeSpec := { name := "fnExactIsDisk", fn := fun _ => fun
  | [d] => { results := [.lit (.bool true)], args := [d] }
  | _ => none }
def fnExactIsDiskRow : OpenClaim := { program := "ytbnbgekjjbpljaagreat", sum := "ce97361c4db836d92603db076191f0798707c336bfba7934410f24a91e9bc0f7", func := "loop.example/g03002/laws.FnExactIsDisk", spec := "fnExactIsDisk", unfollowed := true, recurses := true, apart := false }
def FnExactIsDiskSaid : Prop := fnExactIsDiskRow.holds Tryz.pinned (OpenSpec.ofChange fnExactIsDiskSpec)

/-- ITS FALSE NEIGHBOUR: 'it returns false'. Refute it at one input. -/
def fnExactIsDiskWrong : ChangeSpec := { name := "fnExactIsDisk", fn := fun _ => fun
  | [d] => { results := [.lit (.bool false)], args := [d] }
  | _ => none }
def FnExactIsDiskWrongFalsely : Prop := fnExactIsDiskRow.holds Tryz.pinned (OpenSpec.ofChange fnExactIsDiskWrong)

/-- 'laws.FnExactIsPlayable': WHATEVER THE INPUT: true; the input reads as it did. -/
def fnExactIsPlayableSpec : ChangeSpec := { name := "fnExactIsPlayable", fn := fun _ => fun
  | [d] => { results := [.lit (.bool true)], args := [d] }
  | _ => none }
def fnExactIsPlayableRow : OpenClaim := { program := "ytbnbgekjjbpljaagreat", sum := "ce97361c4db836d92603db076191f0798707c336bfba7934410f24a91e9bc0f7", func := "loop.example/g03002/laws.FnExactIsPlayable", spec := "fnExactIsPlayable", unfollowed := true, recurses := true, apart := false }
def FnExactIsPlayableSaid : Prop := fnExactIsPlayableRow.holds Tryz.pinned (OpenSpec.ofChange fnExactIsPlayableSpec)

/-- ITS FALSE NEIGHBOUR: 'it returns false'. Refute it at one input. -/
def fnExactIsPlayableWrong : ChangeSpec := { name := "fnExactIsPlayable", fn := fun _ => fun
  | [d] => { results := [.lit (.bool false)], args := [d] }
  | _ => none }
def FnExactIsPlayableWrongFalsely : Prop := fnExactIsPlayableRow.holds Tryz.pinned (OpenSpec.ofChange fnExactIsPlayableWrong)

/-- 'laws.FnExactOldestTick': WHATEVER THE INPUT: true; the input reads as it did. -/
def fnExactOldestTickSpec : ChangeSpec := { name := "fnExactOldestTick", fn := fun _ => fun
  | [d] => { results := [.lit (.bool true)], args := [d] }
  | _ => none }
def fnExactOldestTickRow : OpenClaim := { program := "ytbnbgekjjbpljaagreat", sum := "ce97361c4db836d92603db076191f0798707c336bfba7934410f24a91e9bc0f7", func := "loop.example/g03002/laws.FnExactOldestTick", spec := "fnExactOldestTick", unfollowed := true, recurses := true, apart := false }
def FnExactOldestTickSaid : Prop := fnExactOldestTickRow.holds Tryz.pinned (OpenSpec.ofChange fnExactOldestTickSpec)

/-- ITS FALSE NEIGHBOUR: 'it returns false'. Refute it at one input. -/
def fnExactOldestTickWrong : ChangeSpec := { name := "fnExactOldestTick", fn := fun _ => fun
  | [d] => { results := [.lit (.bool false)], args := [d] }
  | _ => none }
def FnExactOldestTickWrongFalsely : Prop := fnExactOldestTickRow.holds Tryz.pinned (OpenSpec.ofChange fnExactOldestTickWrong)

/-- 'laws.FnExactAgreesWithSite': WHATEVER THE INPUT: true; the input reads as it did. -/
def fnExactAgreesWithSiteSpec : ChangeSpec := { name := "fnExactAgreesWithSite", fn := fun _ => fun
  | [d1, d2] => { results := [.lit (.bool true)], args := [d1, d2] }
  | _ => none }
def fnExactAgreesWithSiteRow : OpenClaim := { program := "ytbnbgekjjbpljaagreat", sum := "ce97361c4db836d92603db076191f0798707c336bfba7934410f24a91e9bc0f7", func := "loop.example/g03002/laws.FnExactAgreesWithSite", spec := "fnExactAgreesWithSite", unfollowed := true, recurses := true, apart := false }
def FnExactAgreesWithSiteSaid : Prop := fnExactAgreesWithSiteRow.holds Tryz.pinned (OpenSpec.ofChange fnExactAgreesWithSiteSpec)

/-- ITS FALSE NEIGHBOUR: 'it returns false'. Refute it at one input. -/
def fnExactAgreesWithSiteWrong : ChangeSpec := { name := "fnExactAgreesWithSite", fn := fun _ => fun
  | [d1, d2] => { results := [.lit (.bool false)], args := [d1, d2] }
  | _ => none }
def FnExactAgreesWithSiteWrongFalsely : Prop := fnExactAgreesWithSiteRow.holds Tryz.pinned (OpenSpec.ofChange fnExactAgreesWithSiteWrong)

/-- 'laws.FnExactAllCaptures': WHATEVER THE INPUT: true; the input reads as it did. -/
def fnExactAllCapturesSpec : ChangeSpec := { name := "fnExactAllCaptures", fn := fun _ => fun
  | [d] => { results := [.lit (.bool true)], args := [d] }
  | _ => none }
def fnExactAllCapturesRow : OpenClaim := { program := "ytbnbgekjjbpljaagreat", sum := "ce97361c4db836d92603db076191f0798707c336bfba7934410f24a91e9bc0f7", func := "loop.example/g03002/laws.FnExactAllCaptures", spec := "fnExactAllCaptures", unfollowed := true, recurses := true, apart := false }
def FnExactAllCapturesSaid : Prop := fnExactAllCapturesRow.holds Tryz.pinned (OpenSpec.ofChange fnExactAllCapturesSpec)

/-- ITS FALSE NEIGHBOUR: 'it returns false'. Refute it at one input. -/
def fnExactAllCapturesWrong : ChangeSpec := { name := "fnExactAllCaptures", fn := fun _ => fun
  | [d] => { results := [.lit (.bool false)], args := [d] }
  | _ => none }
def FnExactAllCapturesWrongFalsely : Prop := fnExactAllCapturesRow.holds Tryz.pinned (OpenSpec.ofChange fnExactAllCapturesWrong)

/-- 'laws.FnExactRecoverDisk': WHATEVER THE INPUT: true; the input reads as it did. -/
def fnExactRecoverDiskSpec : ChangeSpec := { name := "fnExactRecoverDisk", fn := fun _ => fun
  | [d] => { results := [.lit (.bool true)], args := [d] }
  | _ => none }
def fnExactRecoverDiskRow : OpenClaim := { program := "ytbnbgekjjbpljaagreat", sum := "ce97361c4db836d92603db076191f0798707c336bfba7934410f24a91e9bc0f7", func := "loop.example/g03002/laws.FnExactRecoverDisk", spec := "fnExactRecoverDisk", unfollowed := true, recurses := true, apart := false }
def FnExactRecoverDiskSaid : Prop := fnExactRecoverDiskRow.holds Tryz.pinned (OpenSpec.ofChange fnExactRecoverDiskSpec)

/-- ITS FALSE NEIGHBOUR: 'it returns false'. Refute it at one input. -/
def fnExactRecoverDiskWrong : ChangeSpec := { name := "fnExactRecoverDisk", fn := fun _ => fun
  | [d] => { results := [.lit (.bool false)], args := [d] }
  | _ => none }
def FnExactRecoverDiskWrongFalsely : Prop := fnExactRecoverDiskRow.holds Tryz.pinned (OpenSpec.ofChange fnExactRecoverDiskWrong)

/-- 'laws.FnExactWriteFirst': WHATEVER THE INPUT: true; the input reads as it did. -/
def fnExactWriteFirstSpec : ChangeSpec := { name := "fnExactWriteFirst", fn := fun _ => fun
  | [d1, d2] => { results := [.lit (.bool true)], args := [d1, d2] }
  | _ => none }
def fnExactWriteFirstRow : OpenClaim := { program := "ytbnbgekjjbpljaagreat", sum := "ce97361c4db836d92603db076191f0798707c336bfba7934410f24a91e9bc0f7", func := "loop.example/g03002/laws.FnExactWriteFirst", spec := "fnExactWriteFirst", unfollowed := true, recurses := true, apart := false }
def FnExactWriteFirstSaid : Prop := fnExactWriteFirstRow.holds Tryz.pinned (OpenSpec.ofChange fnExactWriteFirstSpec)

/-- ITS FALSE NEIGHBOUR: 'it returns false'. Refute it at one input. -/
def fnExactWriteFirstWrong : ChangeSpec := { name := "fnExactWriteFirst", fn := fun _ => fun
  | [d1, d2] => { results := [.lit (.bool false)], args := [d1, d2] }
  | _ => none }
def FnExactWriteFirstWrongFalsely : Prop := fnExactWriteFirstRow.holds Tryz.pinned (OpenSpec.ofChange fnExactWriteFirstWrong)

/-- 'laws.FnExactWriteNext': WHATEVER THE INPUT: true; the input reads as it did. -/
def fnExactWriteNextSpec : ChangeSpec := { name := "fnExactWriteNext", fn := fun _ => fun
  | [d] => { results := [.lit (.bool true)], args := [d] }
  | _ => none }
def fnExactWriteNextRow : OpenClaim := { program := "ytbnbgekjjbpljaagreat", sum := "ce97361c4db836d92603db076191f0798707c336bfba7934410f24a91e9bc0f7", func := "loop.example/g03002/laws.FnExactWriteNext", spec := "fnExactWriteNext", unfollowed := true, recurses := true, apart := false }
def FnExactWriteNextSaid : Prop := fnExactWriteNextRow.holds Tryz.pinned (OpenSpec.ofChange fnExactWriteNextSpec)

/-- ITS FALSE NEIGHBOUR: 'it returns false'. Refute it at one input. -/
def fnExactWriteNextWrong : ChangeSpec := { name := "fnExactWriteNext", fn := fun _ => fun
  | [d] => { results := [.lit (.bool false)], args := [d] }
  | _ => none }
def FnExactWriteNextWrongFalsely : Prop := fnExactWriteNextRow.holds Tryz.pinned (OpenSpec.ofChange fnExactWriteNextWrong)

/-- 'laws.FnExactServedCaptures': WHATEVER THE INPUT: true; the input reads as it did. -/
def fnExactServedCapturesSpec : ChangeSpec := { name := "fnExactServedCaptures", fn := fun _ => fun
  | [d] => { results := [.lit (.bool true)], args := [d] }
  | _ => none }
def fnExactServedCapturesRow : OpenClaim := { program := "ytbnbgekjjbpljaagreat", sum := "ce97361c4db836d92603db076191f0798707c336bfba7934410f24a91e9bc0f7", func := "loop.example/g03002/laws.FnExactServedCaptures", spec := "fnExactServedCaptures", unfollowed := true, recurses := true, apart := false }
def FnExactServedCapturesSaid : Prop := fnExactServedCapturesRow.holds Tryz.pinned (OpenSpec.ofChange fnExactServedCapturesSpec)

/-- ITS FALSE NEIGHBOUR: 'it returns false'. Refute it at one input. -/
def fnExactServedCapturesWrong : ChangeSpec := { name := "fnExactServedCaptures", fn := fun _ => fun
  | [d] => { results := [.lit (.bool false)], args := [d] }
  | _ => none }
def FnExactServedCapturesWrongFalsely : Prop := fnExactServedCapturesRow.holds Tryz.pinned (OpenSpec.ofChange fnExactServedCapturesWrong)

/-- 'laws.FnExactReplayVisit': WHATEVER THE INPUT: true; the input reads as it did. -/
def fnExactReplayVisitSpec : ChangeSpec := { name := "fnExactReplayVisit", fn := fun _ => fun
  | [d1, d2] => { results := [.lit (.bool true)], args := [d1, d2] }
  | _ => none }
def fnExactReplayVisitRow : OpenClaim := { program := "ytbnbgekjjbpljaagreat", sum := "ce97361c4db836d92603db076191f0798707c336bfba7934410f24a91e9bc0f7", func := "loop.example/g03002/laws.FnExactReplayVisit", spec := "fnExactReplayVisit", unfollowed := true, recurses := true, apart := false }
def FnExactReplayVisitSaid : Prop := fnExactReplayVisitRow.holds Tryz.pinned (OpenSpec.ofChange fnExactReplayVisitSpec)

/-- ITS FALSE NEIGHBOUR: 'it returns false'. Refute it at one input. -/
def fnExactReplayVisitWrong : ChangeSpec := { name := "fnExactReplayVisit", fn := fun _ => fun
  | [d1, d2] => { results := [.lit (.bool false)], args := [d1, d2] }
  | _ => none }
def FnExactReplayVisitWrongFalsely : Prop := fnExactReplayVisitRow.holds Tryz.pinned (OpenSpec.ofChange fnExactReplayVisitWrong)

/- THE SECOND FORM. 'bulk': how many values and letters a reading holds, each counted each time it is reached (what is shared counts as often as it is met; a slice's spare places count too). A statement '..UptoSaid' is the law's where the arguments, and the package variables that the reading takes, are together of bulk at most 1048576: NARROWER than '..Said'. Prove '..Said' where nothing that the law and all that it calls make is longer than what came in: it says more and counts as full. Else prove '..UptoSaid'. A law counts once. -/
mutual
def uptoBulk {H : Type} : DataW H → Nat
  | .lit (.string bytes) => bytes.length + 1
  | .lit _ => 1
  | .nil => 1
  | .ptr d => uptoBulk d + 1
  | .slice elems spare => uptoBulkAll elems + uptoBulkAll spare + 1
  | .agg parts => uptoBulkAll parts + 1
  | .iface _ d => uptoBulk d + 1
  | .map entries => uptoBulkEntries entries + 1
  | .held _ => 1
def uptoBulkAll {H : Type} : List (DataW H) → Nat
  | [] => 0
  | d :: r => uptoBulk d + uptoBulkAll r
def uptoBulkEntries {H : Type} : List (Lit × DataW H) → Nat
  | [] => 0
  | x :: r => uptoBulkEntry x + uptoBulkEntries r
def uptoBulkEntry {H : Type} : Lit × DataW H → Nat
  | (.string bytes, d) => bytes.length + uptoBulk d + 1
  | (_, d) => uptoBulk d + 1
 end
def uptoSmall : (H : Type) → List (DataW H) → Bool := fun _ ds => decide (uptoBulkAll ds ≤ 1048576)
def OpenSpec.upto (s : _root_.Go.ChangeSpec) : _root_.Go.OpenSpec := { _root_.Go.OpenSpec.ofChange s with cond := some uptoSmall }

/-- 'laws.FnExactIsDisk', WHERE WHAT IT READS IS OF BULK AT MOST 1048576: true; the input reads as it did. -/
def fnExactIsDiskUptoRow : OpenClaim := { program := "ytbnbgekjjbpljaagreat", sum := "ce97361c4db836d92603db076191f0798707c336bfba7934410f24a91e9bc0f7", func := "loop.example/g03002/laws.FnExactIsDisk", spec := "fnExactIsDisk", unfollowed := true, recurses := true, apart := false, narrowed := true }
def FnExactIsDiskUptoSaid : Prop := fnExactIsDiskUptoRow.holds Tryz.pinned (OpenSpec.upto fnExactIsDiskSpec)

/-- 'laws.FnExactIsPlayable', WHERE WHAT IT READS IS OF BULK AT MOST 1048576: true; the input reads as it did. -/
def fnExactIsPlayableUptoRow : OpenClaim := { program := "ytbnbgekjjbpljaagreat", sum := "ce97361c4db836d92603db076191f0798707c336bfba7934410f24a91e9bc0f7", func := "loop.example/g03002/laws.FnExactIsPlayable", spec := "fnExactIsPlayable", unfollowed := true, recurses := true, apart := false, narrowed := true }
def FnExactIsPlayableUptoSaid : Prop := fnExactIsPlayableUptoRow.holds Tryz.pinned (OpenSpec.upto fnExactIsPlayableSpec)

/-- 'laws.FnExactOldestTick', WHERE WHAT IT READS IS OF BULK AT MOST 1048576: true; the input reads as it did. -/
def fnExactOldestTickUptoRow : OpenClaim := { program := "ytbnbgekjjbpljaagreat", sum := "ce97361c4db836d92603db076191f0798707c336bfba7934410f24a91e9bc0f7", func := "loop.example/g03002/laws.FnExactOldestTick", spec := "fnExactOldestTick", unfollowed := true, recurses := true, apart := false, narrowed := true }
def FnExactOldestTickUptoSaid : Prop := fnExactOldestTickUptoRow.holds Tryz.pinned (OpenSpec.upto fnExactOldestTickSpec)

/-- 'laws.FnExactAgreesWithSite', WHERE WHAT IT READS IS OF BULK AT MOST 1048576: true; the input reads as it did. -/
def fnExactAgreesWithSiteUptoRow : OpenClaim := { program := "ytbnbgekjjbpljaagreat", sum := "ce97361c4db836d92603db076191f0798707c336bfba7934410f24a91e9bc0f7", func := "loop.example/g03002/laws.FnExactAgreesWithSite", spec := "fnExactAgreesWithSite", unfollowed := true, recurses := true, apart := false, narrowed := true }
def FnExactAgreesWithSiteUptoSaid : Prop := fnExactAgreesWithSiteUptoRow.holds Tryz.pinned (OpenSpec.upto fnExactAgreesWithSiteSpec)

/-- 'laws.FnExactAllCaptures', WHERE WHAT IT READS IS OF BULK AT MOST 1048576: true; the input reads as it did. -/
def fnExactAllCapturesUptoRow : OpenClaim := { program := "ytbnbgekjjbpljaagreat", sum := "ce97361c4db836d92603db076191f0798707c336bfba7934410f24a91e9bc0f7", func := "loop.example/g03002/laws.FnExactAllCaptures", spec := "fnExactAllCaptures", unfollowed := true, recurses := true, apart := false, narrowed := true }
def FnExactAllCapturesUptoSaid : Prop := fnExactAllCapturesUptoRow.holds Tryz.pinned (OpenSpec.upto fnExactAllCapturesSpec)

/-- 'laws.FnExactRecoverDisk', WHERE WHAT IT READS IS OF BULK AT MOST 1048576: true; the input reads as it did. -/
def fnExactRecoverDiskUptoRow : OpenClaim := { program := "ytbnbgekjjbpljaagreat", sum := "ce97361c4db836d92603db076191f0798707c336bfba7934410f24a91e9bc0f7", func := "loop.example/g03002/laws.FnExactRecoverDisk", spec := "fnExactRecoverDisk", unfollowed := true, recurses := true, apart := false, narrowed := true }
def FnExactRecoverDiskUptoSaid : Prop := fnExactRecoverDiskUptoRow.holds Tryz.pinned (OpenSpec.upto fnExactRecoverDiskSpec)

/-- 'laws.FnExactWriteFirst', WHERE WHAT IT READS IS OF BULK AT MOST 1048576: true; the input reads as it did. -/
def fnExactWriteFirstUptoRow : OpenClaim := { program := "ytbnbgekjjbpljaagreat", sum := "ce97361c4db836d92603db076191f0798707c336bfba7934410f24a91e9bc0f7", func := "loop.example/g03002/laws.FnExactWriteFirst", spec := "fnExactWriteFirst", unfollowed := true, recurses := true, apart := false, narrowed := true }
def FnExactWriteFirstUptoSaid : Prop := fnExactWriteFirstUptoRow.holds Tryz.pinned (OpenSpec.upto fnExactWriteFirstSpec)

/-- 'laws.FnExactWriteNext', WHERE WHAT IT READS IS OF BULK AT MOST 1048576: true; the input reads as it did. -/
def fnExactWriteNextUptoRow : OpenClaim := { program := "ytbnbgekjjbpljaagreat", sum := "ce97361c4db836d92603db076191f0798707c336bfba7934410f24a91e9bc0f7", func := "loop.example/g03002/laws.FnExactWriteNext", spec := "fnExactWriteNext", unfollowed := true, recurses := true, apart := false, narrowed := true }
def FnExactWriteNextUptoSaid : Prop := fnExactWriteNextUptoRow.holds Tryz.pinned (OpenSpec.upto fnExactWriteNextSpec)

/-- 'laws.FnExactServedCaptures', WHERE WHAT IT READS IS OF BULK AT MOST 1048576: true; the input reads as it did. -/
def fnExactServedCapturesUptoRow : OpenClaim := { program := "ytbnbgekjjbpljaagreat", sum := "ce97361c4db836d92603db076191f0798707c336bfba7934410f24a91e9bc0f7", func := "loop.example/g03002/laws.FnExactServedCaptures", spec := "fnExactServedCaptures", unfollowed := true, recurses := true, apart := false, narrowed := true }
def FnExactServedCapturesUptoSaid : Prop := fnExactServedCapturesUptoRow.holds Tryz.pinned (OpenSpec.upto fnExactServedCapturesSpec)

/-- 'laws.FnExactReplayVisit', WHERE WHAT IT READS IS OF BULK AT MOST 1048576: true; the input reads as it did. -/
def fnExactReplayVisitUptoRow : OpenClaim := { program := "ytbnbgekjjbpljaagreat", sum := "ce97361c4db836d92603db076191f0798707c336bfba7934410f24a91e9bc0f7", func := "loop.example/g03002/laws.FnExactReplayVisit", spec := "fnExactReplayVisit", unfollowed := true, recurses := true, apart := false, narrowed := true }
def FnExactReplayVisitUptoSaid : Prop := fnExactReplayVisitUptoRow.holds Tryz.pinned (OpenSpec.upto fnExactReplayVisitSpec)

end Rows
end Go.Proofs.YtbnbgekjjbpljaaGreat
