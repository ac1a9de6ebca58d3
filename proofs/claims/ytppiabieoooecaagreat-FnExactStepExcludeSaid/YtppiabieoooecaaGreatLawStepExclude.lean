/- The law FnExactStepExclude: StepExclude of the program and of the reference agree on all arguments. No condition. -/
import Derived.Test.YtppiabieoooecaaGreatRows
import Derived.Test.YtppiabieoooecaaGreatTStepExcludec
import Derived.WalkKit
import Derived.ProofKit
import Derived.OpenShut
import Derived.ShutString
import Derived.ChangeOld
import Derived.Below
import Derived.SizedLaws
namespace Go.Proofs.YtppiabieoooecaaGreat.fnExactStepExclude
open Go.ChangeShapes Go.WideShapes Go.ChangeAt Go.RowKit Go.Proofs.YtppiabieoooecaaGreatR
set_option linter.unusedVariables false
theorem own : ownKnob Tryz.prog.godebug = none := by kernel_rfl
theorem lifted (os : Os) (started : os.Started) (H : Type) (enc : TypeId × Value → H) :
    ReturnsInHanded {} Tryz.checked os 16 .any (Rows.fnExactStepExcludeSpec.pre6 enc Tryz.prog Tryz.f16 Rows.fnExactStepExcludeRow.domain false) (Rows.fnExactStepExcludeSpec.post enc Tryz.prog Tryz.f16 false true false false) :=
  returnsInHanded_of_change_sized (C := Tryz.checked) own started (by kernel_rfl) Tryz.func16
    (ChangeSpec.witness6 (enc := enc) (C := Tryz.checked) false ⟨#[], #[.agg #[.slice none 0 0, .slice none 0 0, .slice none 0 0, .slice none 0 0, .slice none 0 0, .slice none 0 0, .slice none 0 0, .slice none 0 0, .slice none 0 0, .int .i64 0], .agg #[.int .i64 0, .int .i64 0, .int .i64 0, .int .i64 0, .int .i64 0]], []⟩ 8 (by kernel_rfl) (by kernel_rfl) (by kernel_rfl) (by kernel_rfl))
    (law_contract (P := Tryz.prog) (fun _ => trivial) (tys := [GArchive.dt, GExclusion.dt]) (tb := 4) (by kernel_rfl) rfl rfl Tryz.underlying4
      (fun ds hl => by obtain ⟨a0, a1, rfl⟩ : ∃ a0 a1, ds = [a0, a1] := (match ds, hl with | [a0, a1], _ => ⟨a0, a1, rfl⟩); rfl)
      (fun ys h => by
        match ys, h with
        | [(_, _), (_, _)], ⟨rfl, h0, rfl, h1, _⟩ =>
          obtain ⟨a0, rfl⟩ := GArchive.of h0
          obtain ⟨a1, rfl⟩ := GExclusion.of h1
          exact c_laws_FnExactStepExclude a0 a1))
set_option maxRecDepth 100000
def io1 : List Char := ['h', 'a', 'r', 'n', 'e', 's', 's', ' ', 'b', 'b', '0', '1', 'd', '9', 'a', '1', '9', 'a', '5', '8', '3', '7', '3', '9', '4', '0', '3', '9', '8', 'b', 'c', '6', 'a', 'a', '8', 'a', '0', 'e', '2', '9', 'c', '5', 'c', 'a', 'd', 'b', '5', 'd', 'a', '8', 'f', '7', 'd', '4', '5', 'a', '5', '3', '7', 'b', '0', '7', '2', 'd', 'f', '0', '7', 'b', 'c', '7', '8', '6', ' ', 'c', 'u', 't', ' ']
def io2 : List Char := ['a', 't', ' ', 'l', 'o', 'o', 'p', '.', 'e', 'x', 'a', 'm', 'p', 'l', 'e', '/', 'g', '0', '3', '0', '0', '2', '/', 'l', 'a', 'w', 's', '.', 'F', 'n', 'E', 'x', 'a', 'c', 't', 'I', 's', 'D', 'i', 's', 'k', ' ', 'l', 'o', 'o', 'p', '.', 'e', 'x', 'a', 'm', 'p', 'l', 'e', '/', 'g', '0', '3', '0', '0', '2', '/', 'l', 'a', 'w', 's', '.', 'F', 'n', 'E', 'x', 'a', 'c', 't', 'I', 's', 'P', 'l', 'a', 'y', 'a', 'b', 'l', 'e', ' ', 'l', 'o', 'o', 'p', '.', 'e', 'x', 'a', 'm', 'p', 'l', 'e', '/', 'g', '0', '3', '0', '0', '2', '/', 'l', 'a', 'w', 's', '.', 'F', 'n', 'E', 'x', 'a', 'c', 't', 'O', 'l', 'd', 'e', 's', 't', 'T', 'i', 'c', 'k', ' ', 'l', 'o', 'o', 'p', '.', 'e', 'x', 'a', 'm', 'p', 'l', 'e', '/', 'g', '0', '3', '0', '0', '2', '/', 'l', 'a', 'w', 's', '.', 'F', 'n', 'E', 'x', 'a', 'c', 't', 'A', 'g', 'r', 'e', 'e', 's', 'W', 'i', 't', 'h', 'S', 'i', 't', 'e', ' ', 'l', 'o', 'o', 'p', '.', 'e', 'x', 'a', 'm', 'p', 'l', 'e', '/', 'g', '0', '3', '0', '0', '2', '/', 'l', 'a', 'w', 's', '.', 'F', 'n', 'E', 'x', 'a', 'c', 't', 'A', 'l', 'l', 'C', 'a', 'p', 't', 'u', 'r', 'e', 's', ' ', 'l', 'o', 'o', 'p', '.', 'e', 'x', 'a', 'm', 'p', 'l', 'e', '/', 'g', '0', '3', '0', '0', '2', '/', 'l', 'a', 'w', 's', '.', 'F', 'n', 'E', 'x', 'a', 'c', 't', 'I', 's', 'P', 'r', 'o', 'v', 'e', 'n', ' ', 'l', 'o', 'o', 'p', '.', 'e', 'x', 'a', 'm', 'p', 'l', 'e', '/', 'g', '0', '3', '0', '0', '2', '/', 'l', 'a', 'w', 's', '.', 'F', 'n', 'E', 'x', 'a', 'c', 't', 'R', 'e', 'c', 'o', 'v', 'e', 'r', 'D', 'i', 's', 'k', ' ', 'l', 'o', 'o', 'p', '.', 'e', 'x', 'a', 'm', 'p', 'l', 'e', '/', 'g', '0', '3', '0', '0', '2', '/', 'l', 'a', 'w', 's', '.', 'F', 'n', 'E', 'x', 'a', 'c', 't', 'W', 'r', 'i', 't', 'e', 'F', 'i', 'r', 's', 't', ' ', 'l', 'o', 'o', 'p', '.', 'e', 'x', 'a', 'm', 'p', 'l', 'e', '/', 'g', '0', '3', '0', '0', '2', '/', 'l', 'a', 'w', 's', '.', 'F', 'n', 'E', 'x', 'a', 'c', 't', 'W', 'r', 'i', 't', 'e', 'N', 'e', 'x', 't', ' ', 'l', 'o', 'o', 'p', '.', 'e', 'x', 'a', 'm', 'p', 'l', 'e', '/', 'g', '0', '3', '0', '0', '2', '/', 'l', 'a', 'w', 's', '.', 'F', 'n', 'E', 'x', 'a', 'c', 't', 'S', 'e', 'r', 'v', 'e', 'd', 'C', 'a', 'p', 't', 'u', 'r', 'e', 's', ' ', 'l', 'o', 'o', 'p', '.', 'e', 'x', 'a', 'm', 'p', 'l', 'e', '/', 'g', '0', '3', '0', '0', '2', '/', 'l', 'a', 'w', 's', '.', 'F', 'n', 'E', 'x', 'a', 'c', 't', 'R', 'e', 'p', 'l', 'a', 'y', 'V', 'i', 's', 'i', 't', ' ', 'l', 'o', 'o', 'p', '.', 'e', 'x', 'a', 'm', 'p', 'l', 'e', '/', 'g', '0', '3', '0', '0', '2', '/', 'l', 'a', 'w', 's', '.', 'F', 'n', 'E', 'x', 'a', 'c', 't', 'S', 'a', 'v', 'e', 'd', 'B', 'y', ' ', 'l', 'o', 'o', 'p', '.', 'e', 'x', 'a', 'm', 'p', 'l', 'e', '/', 'g', '0', '3', '0', '0', '2', '/', 'l', 'a', 'w', 's', '.', 'F', 'n', 'E', 'x', 'a', 'c', 't', 'S', 't', 'e', 'p', 'T', 'i', 'c', 'k', ' ', 'l', 'o', 'o', 'p', '.', 'e', 'x', 'a', 'm', 'p', 'l', 'e', '/', 'g', '0', '3', '0', '0', '2', '/', 'l', 'a', 'w', 's', '.', 'F', 'n', 'E', 'x', 'a', 'c', 't', 'S', 't', 'e', 'p', 'E', 'x', 'c', 'l', 'u', 'd', 'e', ' ', 'l', 'o', 'o', 'p', '.', 'e', 'x', 'a', 'm', 'p', 'l', 'e', '/', 'g', '0', '3', '0', '0', '2', '/', 'l', 'a', 'w', 's', '.', 'F', 'n', 'E', 'x', 'a', 'c', 't', 'S', 't', 'e', 'p', 'L', 'i', 'b', 'r', 'a', 'r', 'y']
theorem io : Tryz.pinned.checked.prog.initOrder = String.ofList (io1 ++ io2) := Eq.trans (b := "harness bb01d9a19a58373940398bc6aa8a0e29c5cadb5da8f7d45a537b072df07bc786 cut at loop.example/g03002/laws.FnExactIsDisk loop.example/g03002/laws.FnExactIsPlayable loop.example/g03002/laws.FnExactOldestTick loop.example/g03002/laws.FnExactAgreesWithSite loop.example/g03002/laws.FnExactAllCaptures loop.example/g03002/laws.FnExactIsProven loop.example/g03002/laws.FnExactRecoverDisk loop.example/g03002/laws.FnExactWriteFirst loop.example/g03002/laws.FnExactWriteNext loop.example/g03002/laws.FnExactServedCaptures loop.example/g03002/laws.FnExactReplayVisit loop.example/g03002/laws.FnExactSavedBy loop.example/g03002/laws.FnExactStepTick loop.example/g03002/laws.FnExactStepExclude loop.example/g03002/laws.FnExactStepLibrary") (by kernel_rfl) (by rfl)
theorem cut : Cut Tryz.pinned.checked.prog := cut_of ['b', 'b', '0', '1', 'd', '9', 'a', '1', '9', 'a', '5', '8', '3', '7', '3', '9', '4', '0', '3', '9', '8', 'b', 'c', '6', 'a', 'a', '8', 'a', '0', 'e', '2', '9', 'c', '5', 'c', 'a', 'd', 'b', '5', 'd', 'a', '8', 'f', '7', 'd', '4', '5', 'a', '5', '3', '7', 'b', '0', '7', '2', 'd', 'f', '0', '7', 'b', 'c', '7', '8', '6'] io1 io2 io (fun r => by kernel_rfl) (by kernel_rfl)
theorem lays : Tryz.pinned.checked.prog.laysLater = false := by kernel_rfl
theorem refl : Tryz.pinned.checked.prog.bearsReflect = false := by kernel_rfl
theorem rows : Tryz.pinned.checked.prog.doorRows = [] := by kernel_rfl
theorem recs : Tryz.pinned.checked.prog.recurses 16 = true := rec_of (g := 241) (h := 241) (by kernel_rfl) (by kernel_rfl) (by kernel_rfl)
theorem ips : Tryz.pinned.checked.prog.inPlace 16 = Rows.fnExactStepExcludeRow.inPlace := by kernel_rfl
theorem unf : Tryz.pinned.checked.prog.unfollowed 16 = Rows.fnExactStepExcludeRow.unfollowed := by kernel_rfl
theorem vns : Tryz.pinned.checked.prog.varsNamed 16 = Rows.fnExactStepExcludeRow.named := by kernel_rfl
theorem closed : joinedFacts Tryz.pinned.checked.prog 16 Tryz.f16 Rows.fnExactStepExcludeSpec Rows.fnExactStepExcludeRow = true := by
  unfold joinedFacts
  rw [recs, ips, unf, vns, may_of cut lays refl rows, lif_of cut, mak_of cut]
  kernel_rfl
theorem over : Rows.fnExactStepExcludeRow.holds Tryz.pinned (OpenSpec.ofChange Rows.fnExactStepExcludeSpec) :=
  OpenClaim.holds_of_wide 16 Tryz.f16 rfl rfl rfl rfl rfl rfl rfl ⟨rfl, rfl, rfl, rfl, rfl⟩ rfl rfl rfl rfl rfl (by kernel_rfl) Tryz.func16 closed
    (of_decide_eq_true (by kernel_rfl)) (by unfold Func.isWrapper; first | (rw [if_pos (by decide +kernel)]; kernel_rfl) | (rw [if_neg (by decide +kernel)]; exact ⟨rfl, rfl⟩))
    (fun os started H enc _ => lifted os started H enc)
theorem proved : Rows.FnExactStepExcludeSaid := over
#print axioms proved
end Go.Proofs.YtppiabieoooecaaGreat.fnExactStepExclude
namespace Go.Proofs.YtppiabieoooecaaGreat
/-- The row, under a short name, for the claim. -/
theorem fnExactStepExclude_holds : Rows.FnExactStepExcludeSaid := fnExactStepExclude.proved
end Go.Proofs.YtppiabieoooecaaGreat
