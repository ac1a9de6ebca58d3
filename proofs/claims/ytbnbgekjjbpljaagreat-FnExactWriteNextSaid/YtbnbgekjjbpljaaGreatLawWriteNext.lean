/- The law FnExactWriteNext: WriteNext of the program and of the reference agree on all arguments. No condition. -/
import Derived.Test.YtbnbgekjjbpljaaGreatRows
import Derived.Test.YtbnbgekjjbpljaaGreatTWriteNextc
import Derived.WalkKit
import Derived.ProofKit
import Derived.OpenShut
import Derived.ShutString
import Derived.ChangeOld
import Derived.Below
import Derived.SizedLaws
namespace Go.Proofs.YtbnbgekjjbpljaaGreat.fnExactWriteNext
open Go.ChangeShapes Go.WideShapes Go.ChangeAt Go.RowKit Go.Proofs.YtbnbgekjjbpljaaGreatR
set_option linter.unusedVariables false
theorem own : ownKnob Tryz.prog.godebug = none := by kernel_rfl
set_option maxHeartbeats 4000000 in
theorem lifted (os : Os) (started : os.Started) (H : Type) (enc : TypeId × Value → H) :
    ReturnsInHanded {} Tryz.checked os 10 .any (Rows.fnExactWriteNextSpec.pre6 enc Tryz.prog Tryz.f10 Rows.fnExactWriteNextRow.domain false) (Rows.fnExactWriteNextSpec.post enc Tryz.prog Tryz.f10 false true false false) :=
  returnsInHanded_of_change_sized (C := Tryz.checked) own started (by kernel_rfl) Tryz.func10
    (ChangeSpec.witness6 (enc := enc) (C := Tryz.checked) false ⟨#[], #[.agg #[.slice none 0 0, .slice none 0 0, .slice none 0 0]], []⟩ 8 (by kernel_rfl) (by kernel_rfl) (by kernel_rfl) (by kernel_rfl))
    (law_contract (P := Tryz.prog) (fun _ => trivial) (tys := [GDisk.dt]) (tb := 4) (by kernel_rfl) rfl rfl Tryz.underlying4
      (fun ds hl => by obtain ⟨a0, rfl⟩ : ∃ a0, ds = [a0] := (match ds, hl with | [a0], _ => ⟨a0, rfl⟩); rfl)
      (fun ys h => by
        match ys, h with
        | [(_, _)], ⟨rfl, h0, _⟩ =>
          obtain ⟨a0, rfl⟩ := GDisk.of h0
          exact c_laws_FnExactWriteNext a0))
set_option maxRecDepth 100000
def io1 : List Char := ['h', 'a', 'r', 'n', 'e', 's', 's', ' ', '4', '8', 'a', '7', '6', '5', '7', '9', '0', '7', '6', '8', '7', '3', '5', '8', 'f', '6', '0', '4', 'e', '3', '4', 'd', '7', '0', 'a', '4', '6', 'b', '9', '8', 'd', 'c', '0', '6', '4', 'd', '3', 'f', '8', 'f', '5', '5', 'c', '8', '7', 'b', 'b', 'b', 'e', '4', '1', '3', 'd', '6', '3', '4', '9', '9', '6', 'd', 'd', '4', ' ', 'c', 'u', 't', ' ']
def io2 : List Char := ['a', 't', ' ', 'l', 'o', 'o', 'p', '.', 'e', 'x', 'a', 'm', 'p', 'l', 'e', '/', 'g', '0', '3', '0', '0', '2', '/', 'l', 'a', 'w', 's', '.', 'F', 'n', 'E', 'x', 'a', 'c', 't', 'I', 's', 'D', 'i', 's', 'k', ' ', 'l', 'o', 'o', 'p', '.', 'e', 'x', 'a', 'm', 'p', 'l', 'e', '/', 'g', '0', '3', '0', '0', '2', '/', 'l', 'a', 'w', 's', '.', 'F', 'n', 'E', 'x', 'a', 'c', 't', 'I', 's', 'P', 'l', 'a', 'y', 'a', 'b', 'l', 'e', ' ', 'l', 'o', 'o', 'p', '.', 'e', 'x', 'a', 'm', 'p', 'l', 'e', '/', 'g', '0', '3', '0', '0', '2', '/', 'l', 'a', 'w', 's', '.', 'F', 'n', 'E', 'x', 'a', 'c', 't', 'O', 'l', 'd', 'e', 's', 't', 'T', 'i', 'c', 'k', ' ', 'l', 'o', 'o', 'p', '.', 'e', 'x', 'a', 'm', 'p', 'l', 'e', '/', 'g', '0', '3', '0', '0', '2', '/', 'l', 'a', 'w', 's', '.', 'F', 'n', 'E', 'x', 'a', 'c', 't', 'A', 'g', 'r', 'e', 'e', 's', 'W', 'i', 't', 'h', 'S', 'i', 't', 'e', ' ', 'l', 'o', 'o', 'p', '.', 'e', 'x', 'a', 'm', 'p', 'l', 'e', '/', 'g', '0', '3', '0', '0', '2', '/', 'l', 'a', 'w', 's', '.', 'F', 'n', 'E', 'x', 'a', 'c', 't', 'A', 'l', 'l', 'C', 'a', 'p', 't', 'u', 'r', 'e', 's', ' ', 'l', 'o', 'o', 'p', '.', 'e', 'x', 'a', 'm', 'p', 'l', 'e', '/', 'g', '0', '3', '0', '0', '2', '/', 'l', 'a', 'w', 's', '.', 'F', 'n', 'E', 'x', 'a', 'c', 't', 'R', 'e', 'c', 'o', 'v', 'e', 'r', 'D', 'i', 's', 'k', ' ', 'l', 'o', 'o', 'p', '.', 'e', 'x', 'a', 'm', 'p', 'l', 'e', '/', 'g', '0', '3', '0', '0', '2', '/', 'l', 'a', 'w', 's', '.', 'F', 'n', 'E', 'x', 'a', 'c', 't', 'W', 'r', 'i', 't', 'e', 'F', 'i', 'r', 's', 't', ' ', 'l', 'o', 'o', 'p', '.', 'e', 'x', 'a', 'm', 'p', 'l', 'e', '/', 'g', '0', '3', '0', '0', '2', '/', 'l', 'a', 'w', 's', '.', 'F', 'n', 'E', 'x', 'a', 'c', 't', 'W', 'r', 'i', 't', 'e', 'N', 'e', 'x', 't', ' ', 'l', 'o', 'o', 'p', '.', 'e', 'x', 'a', 'm', 'p', 'l', 'e', '/', 'g', '0', '3', '0', '0', '2', '/', 'l', 'a', 'w', 's', '.', 'F', 'n', 'E', 'x', 'a', 'c', 't', 'S', 'e', 'r', 'v', 'e', 'd', 'C', 'a', 'p', 't', 'u', 'r', 'e', 's', ' ', 'l', 'o', 'o', 'p', '.', 'e', 'x', 'a', 'm', 'p', 'l', 'e', '/', 'g', '0', '3', '0', '0', '2', '/', 'l', 'a', 'w', 's', '.', 'F', 'n', 'E', 'x', 'a', 'c', 't', 'R', 'e', 'p', 'l', 'a', 'y', 'V', 'i', 's', 'i', 't']
theorem io : Tryz.pinned.checked.prog.initOrder = String.ofList (io1 ++ io2) := Eq.trans (b := "harness 48a7657907687358f604e34d70a46b98dc064d3f8f55c87bbbe413d634996dd4 cut at loop.example/g03002/laws.FnExactIsDisk loop.example/g03002/laws.FnExactIsPlayable loop.example/g03002/laws.FnExactOldestTick loop.example/g03002/laws.FnExactAgreesWithSite loop.example/g03002/laws.FnExactAllCaptures loop.example/g03002/laws.FnExactRecoverDisk loop.example/g03002/laws.FnExactWriteFirst loop.example/g03002/laws.FnExactWriteNext loop.example/g03002/laws.FnExactServedCaptures loop.example/g03002/laws.FnExactReplayVisit") (by kernel_rfl) (by rfl)
theorem cut : Cut Tryz.pinned.checked.prog := cut_of ['4', '8', 'a', '7', '6', '5', '7', '9', '0', '7', '6', '8', '7', '3', '5', '8', 'f', '6', '0', '4', 'e', '3', '4', 'd', '7', '0', 'a', '4', '6', 'b', '9', '8', 'd', 'c', '0', '6', '4', 'd', '3', 'f', '8', 'f', '5', '5', 'c', '8', '7', 'b', 'b', 'b', 'e', '4', '1', '3', 'd', '6', '3', '4', '9', '9', '6', 'd', 'd', '4'] io1 io2 io (fun r => by kernel_rfl) (by kernel_rfl)
theorem lays : Tryz.pinned.checked.prog.laysLater = false := by kernel_rfl
theorem refl : Tryz.pinned.checked.prog.bearsReflect = false := by kernel_rfl
theorem rows : Tryz.pinned.checked.prog.doorRows = [] := by kernel_rfl
theorem ips : Tryz.pinned.checked.prog.inPlace 10 = Rows.fnExactWriteNextRow.inPlace := by kernel_rfl
theorem unf : Tryz.pinned.checked.prog.unfollowed 10 = Rows.fnExactWriteNextRow.unfollowed := by kernel_rfl
theorem recs : Tryz.pinned.checked.prog.recurses 10 = true := by unfold Program.recurses; rw [unf]; rfl
theorem vns : Tryz.pinned.checked.prog.varsNamed 10 = Rows.fnExactWriteNextRow.named := by kernel_rfl
theorem closed : joinedFacts Tryz.pinned.checked.prog 10 Tryz.f10 Rows.fnExactWriteNextSpec Rows.fnExactWriteNextRow = true := by
  unfold joinedFacts
  rw [recs, ips, unf, vns, may_of cut lays refl rows, lif_of cut, mak_of cut]
  kernel_rfl
theorem over : Rows.fnExactWriteNextRow.holds Tryz.pinned (OpenSpec.ofChange Rows.fnExactWriteNextSpec) :=
  OpenClaim.holds_of_wide 10 Tryz.f10 rfl rfl rfl rfl rfl rfl rfl ⟨rfl, rfl, rfl, rfl, rfl⟩ rfl rfl rfl rfl rfl (by kernel_rfl) Tryz.func10 closed
    (of_decide_eq_true (by kernel_rfl)) (by unfold Func.isWrapper; first | (rw [if_pos (by decide +kernel)]; kernel_rfl) | (rw [if_neg (by decide +kernel)]; exact ⟨rfl, rfl⟩))
    (fun os started H enc _ => lifted os started H enc)
theorem proved : Rows.FnExactWriteNextSaid := over
#print axioms proved
end Go.Proofs.YtbnbgekjjbpljaaGreat.fnExactWriteNext
namespace Go.Proofs.YtbnbgekjjbpljaaGreat
/-- The row, under a short name, for the claim. -/
theorem fnExactWriteNext_holds : Rows.FnExactWriteNextSaid := fnExactWriteNext.proved
end Go.Proofs.YtbnbgekjjbpljaaGreat
