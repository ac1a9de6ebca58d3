/- The law FnExactStepChange: StepChange of the program and of the reference agree on all arguments. No condition. -/
import Derived.Test.YtpclnmleldeleaaGreatRows
import Derived.Test.YtpclnmleldeleaaGreatTStepChangeb
import Derived.WalkKit
import Derived.ProofKit
import Derived.OpenShut
import Derived.ShutString
import Derived.ChangeOld
import Derived.Below
import Derived.SizedLaws
namespace Go.Proofs.YtpclnmleldeleaaGreat.fnExactStepChange
open Go.ChangeShapes Go.WideShapes Go.ChangeAt Go.RowKit Go.Proofs.YtpclnmleldeleaaGreatR
set_option linter.unusedVariables false
theorem own : ownKnob Tryz.prog.godebug = none := by kernel_rfl
set_option maxHeartbeats 4000000 in
theorem lifted (os : Os) (started : os.Started) (H : Type) (enc : TypeId × Value → H) :
    ReturnsInHanded {} Tryz.checked os 3 .any (Rows.fnExactStepChangeSpec.pre6 enc Tryz.prog Tryz.f3 Rows.fnExactStepChangeRow.domain false) (Rows.fnExactStepChangeSpec.post enc Tryz.prog Tryz.f3 false true false false) :=
  returnsInHanded_of_change_sized (C := Tryz.checked) own started (by kernel_rfl) Tryz.func3
    (ChangeSpec.witness6 (enc := enc) (C := Tryz.checked) false ⟨#[], #[.agg #[.slice none 0 0, .slice none 0 0, .slice none 0 0, .slice none 0 0, .slice none 0 0, .slice none 0 0, .slice none 0 0, .slice none 0 0, .slice none 0 0, .int .i64 0], .agg #[.int .i64 0, .int .i64 0, .int .i64 0, .int .i64 0, .int .i64 0, .slice none 0 0, .int .i64 0, .int .i64 0, .int .i64 0]], []⟩ 8 (by kernel_rfl) (by kernel_rfl) (by kernel_rfl) (by kernel_rfl))
    (law_contract (P := Tryz.prog) (fun _ => trivial) (tys := [GArchive.dt, GVersion.dt]) (tb := 4) (by kernel_rfl) rfl rfl Tryz.underlying4
      (fun ds hl => by obtain ⟨a0, a1, rfl⟩ : ∃ a0 a1, ds = [a0, a1] := (match ds, hl with | [a0, a1], _ => ⟨a0, a1, rfl⟩); rfl)
      (fun ys h => by
        match ys, h with
        | [(_, _), (_, _)], ⟨rfl, h0, rfl, h1, _⟩ =>
          obtain ⟨a0, rfl⟩ := GArchive.of h0
          obtain ⟨a1, rfl⟩ := GVersion.of h1
          exact c_laws_FnExactStepChange a0 a1))
set_option maxRecDepth 100000
def io1 : List Char := ['h', 'a', 'r', 'n', 'e', 's', 's', ' ', '7', 'b', 'd', 'f', '3', '1', '8', '1', 'a', '7', 'b', 'd', 'c', '8', '1', '5', '7', 'f', '8', '8', '6', 'a', '9', '4', '7', 'd', 'e', 'b', '3', '8', '2', 'e', 'a', 'a', '3', 'f', 'b', 'a', '9', 'f', 'f', '3', '8', 'b', '7', '6', '3', '0', '5', '1', 'c', '9', 'd', 'c', '4', '8', '8', '1', '5', '1', '5', '0', '9', '2', ' ', 'c', 'u', 't', ' ']
def io2 : List Char := ['a', 't', ' ', 'l', 'o', 'o', 'p', '.', 'e', 'x', 'a', 'm', 'p', 'l', 'e', '/', 'g', '0', '3', '0', '0', '2', '/', 'l', 'a', 'w', 's', '.', 'F', 'n', 'E', 'x', 'a', 'c', 't', 'S', 't', 'e', 'p', 'C', 'h', 'a', 'n', 'g', 'e', ' ', 'l', 'o', 'o', 'p', '.', 'e', 'x', 'a', 'm', 'p', 'l', 'e', '/', 'g', '0', '3', '0', '0', '2', '/', 'l', 'a', 'w', 's', '.', 'F', 'n', 'E', 'x', 'a', 'c', 't', 'S', 't', 'e', 'p', 'C', 'r', 'a', 's', 'h', ' ', 'l', 'o', 'o', 'p', '.', 'e', 'x', 'a', 'm', 'p', 'l', 'e', '/', 'g', '0', '3', '0', '0', '2', '/', 'l', 'a', 'w', 's', '.', 'F', 'n', 'E', 'x', 'a', 'c', 't', 'S', 't', 'e', 'p', 'V', 'i', 's', 'i', 't', ' ', 'l', 'o', 'o', 'p', '.', 'e', 'x', 'a', 'm', 'p', 'l', 'e', '/', 'g', '0', '3', '0', '0', '2', '/', 'l', 'a', 'w', 's', '.', 'F', 'n', 'E', 'x', 'a', 'c', 't', 'S', 'p', 'a', 'n', 'K', 'e', 'p', 't', ' ', 'l', 'o', 'o', 'p', '.', 'e', 'x', 'a', 'm', 'p', 'l', 'e', '/', 'g', '0', '3', '0', '0', '2', '/', 'l', 'a', 'w', 's', '.', 'F', 'n', 'E', 'x', 'a', 'c', 't', 'B', 'e', 's', 't', 'T', 'i', 'c', 'k', ' ', 'l', 'o', 'o', 'p', '.', 'e', 'x', 'a', 'm', 'p', 'l', 'e', '/', 'g', '0', '3', '0', '0', '2', '/', 'l', 'a', 'w', 's', '.', 'F', 'n', 'E', 'x', 'a', 'c', 't', 'I', 's', 'A', 'r', 'c', 'h', 'i', 'v', 'e', ' ', 'l', 'o', 'o', 'p', '.', 'e', 'x', 'a', 'm', 'p', 'l', 'e', '/', 'g', '0', '3', '0', '0', '2', '/', 'l', 'a', 'w', 's', '.', 'F', 'n', 'E', 'x', 'a', 'c', 't', 'H', 'i', 's', 't', 'o', 'r', 'y', 'O', 'f', ' ', 'l', 'o', 'o', 'p', '.', 'e', 'x', 'a', 'm', 'p', 'l', 'e', '/', 'g', '0', '3', '0', '0', '2', '/', 'l', 'a', 'w', 's', '.', 'F', 'n', 'E', 'x', 'a', 'c', 't', 'N', 'e', 'w', 'A', 'r', 'c', 'h', 'i', 'v', 'e']
theorem io : Tryz.pinned.checked.prog.initOrder = String.ofList (io1 ++ io2) := Eq.trans (b := "harness 7bdf3181a7bdc8157f886a947deb382eaa3fba9ff38b763051c9dc4881515092 cut at loop.example/g03002/laws.FnExactStepChange loop.example/g03002/laws.FnExactStepCrash loop.example/g03002/laws.FnExactStepVisit loop.example/g03002/laws.FnExactSpanKept loop.example/g03002/laws.FnExactBestTick loop.example/g03002/laws.FnExactIsArchive loop.example/g03002/laws.FnExactHistoryOf loop.example/g03002/laws.FnExactNewArchive") (by kernel_rfl) (by rfl)
theorem cut : Cut Tryz.pinned.checked.prog := cut_of ['7', 'b', 'd', 'f', '3', '1', '8', '1', 'a', '7', 'b', 'd', 'c', '8', '1', '5', '7', 'f', '8', '8', '6', 'a', '9', '4', '7', 'd', 'e', 'b', '3', '8', '2', 'e', 'a', 'a', '3', 'f', 'b', 'a', '9', 'f', 'f', '3', '8', 'b', '7', '6', '3', '0', '5', '1', 'c', '9', 'd', 'c', '4', '8', '8', '1', '5', '1', '5', '0', '9', '2'] io1 io2 io (fun r => by kernel_rfl) (by kernel_rfl)
theorem lays : Tryz.pinned.checked.prog.laysLater = false := by kernel_rfl
theorem refl : Tryz.pinned.checked.prog.bearsReflect = false := by kernel_rfl
theorem rows : Tryz.pinned.checked.prog.doorRows = [] := by kernel_rfl
theorem ips : Tryz.pinned.checked.prog.inPlace 3 = Rows.fnExactStepChangeRow.inPlace := by kernel_rfl
theorem unf : Tryz.pinned.checked.prog.unfollowed 3 = Rows.fnExactStepChangeRow.unfollowed := by kernel_rfl
theorem recs : Tryz.pinned.checked.prog.recurses 3 = true := by unfold Program.recurses; rw [unf]; rfl
theorem vns : Tryz.pinned.checked.prog.varsNamed 3 = Rows.fnExactStepChangeRow.named := by kernel_rfl
theorem closed : joinedFacts Tryz.pinned.checked.prog 3 Tryz.f3 Rows.fnExactStepChangeSpec Rows.fnExactStepChangeRow = true := by
  unfold joinedFacts
  rw [recs, ips, unf, vns, may_of cut lays refl rows, lif_of cut, mak_of cut]
  kernel_rfl
theorem over : Rows.fnExactStepChangeRow.holds Tryz.pinned (OpenSpec.ofChange Rows.fnExactStepChangeSpec) :=
  OpenClaim.holds_of_wide 3 Tryz.f3 rfl rfl rfl rfl rfl rfl rfl ⟨rfl, rfl, rfl, rfl, rfl⟩ rfl rfl rfl rfl rfl (by kernel_rfl) Tryz.func3 closed
    (of_decide_eq_true (by kernel_rfl)) (by unfold Func.isWrapper; first | (rw [if_pos (by decide +kernel)]; kernel_rfl) | (rw [if_neg (by decide +kernel)]; exact ⟨rfl, rfl⟩))
    (fun os started H enc _ => lifted os started H enc)
theorem proved : Rows.FnExactStepChangeSaid := over
#print axioms proved
end Go.Proofs.YtpclnmleldeleaaGreat.fnExactStepChange
namespace Go.Proofs.YtpclnmleldeleaaGreat
/-- The row, under a short name, for the claim. -/
theorem fnExactStepChange_holds : Rows.FnExactStepChangeSaid := fnExactStepChange.proved
end Go.Proofs.YtpclnmleldeleaaGreat
